import PyProof.Rows.All
import PySem.Challenge.RW_turnwise_k92_records_as_lines
import Wide.All
import OpenK.AllK
import Wide.FinOn
import HandS.ForMost
import HandS.Flow
import HandS.IsInst
import HandS.RaiseMore
import HandS.TupAny
import HandS.Style
import HandS.FStr
import HandS.Conv
import HandS.StrMore
import HandS.Deep
import PyProof.ReprRoads
import PyProof.Rows.RegStrFacts
import PyProof.Rows.RegFStrParts
import KE.KxField
import HandS.Replace
import HandS.ReplaceLit
import HandS.ReplaceDef
import KE.KIntText
set_option Elab.async false
set_option linter.all false
set_option maxRecDepth 100000
set_option maxHeartbeats 4000000
/-! The data layer: what a text computes, said of plain data alone (PyData), over the hand layer's judgements. -/
namespace DL
open PySem PySem.Spec PyProof.Rows L2

/-! ### data that stands -/
def keyD : Key → PyData
  | .inl i => .int i
  | .inr x => .str x
/-- a list that may be read: tracked, locked, or one of the written part -/
def RlK (K : PySem.W.Frag) (H : Hp) (a : Addr) (xs : List V) : Prop := Rd H a (.lst xs) ∨ ∃ its : List Value, K.lookup a = some { cls := .type "list", data := .seq its.toArray } ∧ xs.length ≤ sizeLine ∧ Vals xs its
theorem RlK.sq {K : PySem.W.Frag} {H : Hp} {a : Addr} {xs : List V} (h : RlK K H a xs) : SqL K H a xs := by
  rcases h with h | ⟨its, h1, h2, h3⟩
  · exact .inl h
  · exact .inr ⟨_, its.toArray, 0, h1, rfl, rfl, rfl, by rw [List.size_toArray, ← h3.length]; exact h2, by simpa using h3⟩
mutual
inductive Da (K : PySem.W.Frag) (H : Hp) : V → PyData → Prop
  | non : Da K H .non .none
  | bl (b : Bool) : Da K H (.bl b) (.bool b)
  | int (i : Int) : Da K H (.int i) (.int i)
  | str (x : Str) : Da K H (.str x) (.str x)
  | lst {a : Addr} {xs : List V} {ds : List PyData} : RlK K H a xs → DaAll K H xs ds → Da K H (.ref a) (.list ds)
  | tup {a : Addr} {xs : List V} {ds : List PyData} : SqT K H a xs → DaAll K H xs ds → Da K H (.ref a) (.tuple ds)
  | dic {a : Addr} {kvs : List (Key × V)} {ks : List (PyData × PyData)} : Rd H a (.dK kvs) → DaKv K H kvs ks → Da K H (.ref a) (.dict ks)
inductive DaAll (K : PySem.W.Frag) (H : Hp) : List V → List PyData → Prop
  | nil : DaAll K H [] []
  | cons {v : V} {vs : List V} {d : PyData} {ds : List PyData} : Da K H v d → DaAll K H vs ds → DaAll K H (v :: vs) (d :: ds)
inductive DaKv (K : PySem.W.Frag) (H : Hp) : List (Key × V) → List (PyData × PyData) → Prop
  | nil : DaKv K H [] []
  | cons {k : Key} {v : V} {kvs : List (Key × V)} {d : PyData} {ks : List (PyData × PyData)} : Da K H v d → DaKv K H kvs ks → DaKv K H ((k, v) :: kvs) ((keyD k, d) :: ks)
end

/-- what is read in the one may be read in the other -/
def RdLe (H H' : Hp) : Prop := ∀ a u, Rd H a u → Rd H' a u
theorem RdLe.refl (H : Hp) : RdLe H H := fun _ _ h => h
theorem RdLe.trans {H H1 H2 : Hp} (a : RdLe H H1) (b : RdLe H1 H2) : RdLe H H2 := fun x u h => b x u (a x u h)
theorem RlK.mono {K : PySem.W.Frag} {H H' : Hp} {a : Addr} {xs : List V} (h : RlK K H a xs) (e : RdLe H H') : RlK K H' a xs := h.imp (e a _) id
theorem RdLe.l {K : PySem.W.Frag} {H H' : Hp} {a : Addr} {xs : List V} (e : RdLe H H') (h : SqL K H a xs) : SqL K H' a xs := h.imp (e a _) id
theorem RdLe.t {K : PySem.W.Frag} {H H' : Hp} {a : Addr} {xs : List V} (e : RdLe H H') (h : SqT K H a xs) : SqT K H' a xs := h.imp (e a _) id
mutual
theorem Da.mono {K : PySem.W.Frag} {H H' : Hp} (e : RdLe H H') : ∀ {v : V} {d : PyData}, Da K H v d → Da K H' v d
  | _, _, .non => .non
  | _, _, .bl b => .bl b
  | _, _, .int i => .int i
  | _, _, .str x => .str x
  | _, _, .lst h a => .lst (h.mono e) (DaAll.mono e a)
  | _, _, .tup h a => .tup (e.t h) (DaAll.mono e a)
  | _, _, .dic h a => .dic (e _ _ h) (DaKv.mono e a)
theorem DaAll.mono {K : PySem.W.Frag} {H H' : Hp} (e : RdLe H H') : ∀ {vs : List V} {ds : List PyData}, DaAll K H vs ds → DaAll K H' vs ds
  | _, _, .nil => .nil
  | _, _, .cons h t => .cons (Da.mono e h) (DaAll.mono e t)
theorem DaKv.mono {K : PySem.W.Frag} {H H' : Hp} (e : RdLe H H') : ∀ {vs : List (Key × V)} {ds : List (PyData × PyData)}, DaKv K H vs ds → DaKv K H' vs ds
  | _, _, .nil => .nil
  | _, _, .cons h t => .cons (Da.mono e h) (DaKv.mono e t)
end
theorem DaAll.length {K : PySem.W.Frag} {H : Hp} : ∀ {vs : List V} {ds : List PyData}, DaAll K H vs ds → vs.length = ds.length
  | _, _, .nil => rfl
  | _, _, .cons _ t => congrArg (· + 1) (DaAll.length t)
theorem DaAll.get {K : PySem.W.Frag} {H : Hp} : ∀ {vs : List V} {ds : List PyData} {i : Nat} {v : V}, DaAll K H vs ds → vs[i]? = some v → ∃ d, ds[i]? = some d ∧ Da K H v d
  | _, _, _, _, .nil, e => by simp at e
  | _, _, 0, _, .cons h _, e => by
    simp at e
    subst e
    exact ⟨_, rfl, h⟩
  | _, _, i + 1, v, .cons _ t, e => by
    obtain ⟨d, h1, h2⟩ := DaAll.get (i := i) (v := v) t (by simpa using e)
    exact ⟨d, by simpa using h1, h2⟩
theorem DaAll.getD {K : PySem.W.Frag} {H : Hp} {vs : List V} {ds : List PyData} {i : Nat} {d : PyData} (h : DaAll K H vs ds) (e : ds[i]? = some d) : ∃ v, vs[i]? = some v ∧ Da K H v d := by
  have hi : i < vs.length := by
    rw [h.length]
    exact (List.getElem?_eq_some_iff.mp e).1
  obtain ⟨d', e', q⟩ := h.get (List.getElem?_eq_getElem hi)
  rw [e] at e'
  cases e'
  exact ⟨_, List.getElem?_eq_getElem hi, q⟩
theorem DaAll.append {K : PySem.W.Frag} {H : Hp} : ∀ {vs ws : List V} {ds es : List PyData}, DaAll K H vs ds → DaAll K H ws es → DaAll K H (vs ++ ws) (ds ++ es)
  | _, _, _, _, .nil, s => s
  | _, _, _, _, .cons h t, s => .cons h (DaAll.append t s)
theorem DaAll.set {K : PySem.W.Frag} {H : Hp} {v : V} {d : PyData} (q : Da K H v d) : ∀ {vs : List V} {ds : List PyData} (i : Nat), DaAll K H vs ds → DaAll K H (vs.set i v) (ds.set i d)
  | _, _, _, .nil => .nil
  | _, _, 0, .cons _ t => .cons q t
  | _, _, i + 1, .cons h t => .cons h (DaAll.set q i t)
theorem DaAll.take {K : PySem.W.Frag} {H : Hp} : ∀ {vs : List V} {ds : List PyData} (n : Nat), DaAll K H vs ds → DaAll K H (vs.take n) (ds.take n)
  | _, _, 0, _ => .nil
  | _, _, _ + 1, .nil => .nil
  | _, _, n + 1, .cons h t => .cons h (DaAll.take n t)
theorem DaAll.drop {K : PySem.W.Frag} {H : Hp} : ∀ {vs : List V} {ds : List PyData} (n : Nat), DaAll K H vs ds → DaAll K H (vs.drop n) (ds.drop n)
  | _, _, 0, h => h
  | _, _, _ + 1, .nil => .nil
  | _, _, n + 1, .cons _ t => DaAll.drop n t
theorem DaAll.reverse {K : PySem.W.Frag} {H : Hp} : ∀ {vs : List V} {ds : List PyData}, DaAll K H vs ds → DaAll K H vs.reverse ds.reverse
  | _, _, .nil => .nil
  | _, _, .cons h t => by
    rw [List.reverse_cons, List.reverse_cons]
    exact (DaAll.reverse t).append (.cons h .nil)

/-- data below, the heap above: each object as it is, or locked -/
def Sub (Hb H : Hp) : Prop := ∀ a u, Hb a = some u → H a = some u ∨ ((∀ o v, u ≠ .frz o v) ∧ ∃ o, H a = some (.frz o u))
theorem Sub.refl (H : Hp) : Sub H H := fun _ _ h => .inl h
theorem Sub.rd {Hb H : Hp} (s : Sub Hb H) : RdLe Hb H := fun a u h => by
  rcases h with h | ⟨o, h⟩
  · rcases s a _ h with q | ⟨_, o, q⟩
    · exact .inl q
    · exact .inr ⟨o, q⟩
  · rcases s a _ h with q | ⟨n, _⟩
    · exact .inr ⟨o, q⟩
    · exact absurd rfl (n o u)
theorem Sub.no {Hb H : Hp} (s : Sub Hb H) {a : Addr} (h : H a = none) : Hb a = none := by
  cases e : Hb a with
  | none => rfl
  | some u =>
    rcases s a u e with q | ⟨_, o, q⟩ <;> (rw [h] at q; cases q)
theorem Sub.of {Hb Hb2 H : Hp} (a : Same Hb Hb2) (s : Sub Hb2 H) : Sub Hb H := fun x u h => s x u (a x u h)
theorem same_rd {H H' : Hp} (s : Same H H') : RdLe H H' := fun a u h => by
  rcases h with h | ⟨o, h⟩
  · exact .inl (s a _ h)
  · exact .inr ⟨o, s a _ h⟩
theorem same_new {H : Hp} {p : Addr} {o : HO} (h : H p = none) : Same H (upd H p o) := fun b x e => by
  rw [upd_ne (ne_of_none e h)]
  exact e

/-- what may change: the objects O; new ones may come, the data stay -/
structure Grow (O : Addr → Prop) (Hb H Hb2 H2 : Hp) : Prop where
  per : Same Hb Hb2
  keep : ∀ a o, H a = some o → ¬ O a → H2 a = some o
  hid : ∀ a, ¬ O a → Hb a = none → H a ≠ none → Hb2 a = none
  there : ∀ a, H a ≠ none → H2 a ≠ none
abbrev N0 : Addr → Prop := fun _ => False
theorem Grow.refl (O : Addr → Prop) (Hb H : Hp) : Grow O Hb H Hb H := ⟨Same.refl _, fun _ _ h _ => h, fun _ _ h _ => h, fun _ h => h⟩
theorem Grow.trans {O O' : Addr → Prop} {Hb H Hb1 H1 Hb2 H2 : Hp} (a : Grow O Hb H Hb1 H1) (b : Grow O' Hb1 H1 Hb2 H2) (h : ∀ p, O' p → O p ∨ H p = none) : Grow O Hb H Hb2 H2 where
  per := a.per.trans b.per
  keep := fun p o e n => b.keep p o (a.keep p o e n) fun z => (h p z).elim n fun q => by
    rw [q] at e
    cases e
  hid := fun p n e k => b.hid p (fun z => (h p z).elim n k) (a.hid p n e k) (a.there p k)
  there := fun p k => b.there p (a.there p k)
theorem Grow.trans0 {O : Addr → Prop} {Hb H Hb1 H1 Hb2 H2 : Hp} (a : Grow O Hb H Hb1 H1) (b : Grow N0 Hb1 H1 Hb2 H2) : Grow O Hb H Hb2 H2 := a.trans b fun _ z => z.elim
theorem Grow.wide {O O' : Addr → Prop} {Hb H Hb2 H2 : Hp} (a : Grow O Hb H Hb2 H2) (h : ∀ p, O p → O' p) : Grow O' Hb H Hb2 H2 := ⟨a.per, fun p o e n => a.keep p o e fun z => n (h p z), fun p n => a.hid p fun z => n (h p z), a.there⟩
/-- a new object, tracked as data -/
theorem Grow.new {O : Addr → Prop} {Hb H : Hp} {p : Addr} {o : HO} (s : Sub Hb H) (h : H p = none) : Grow O Hb H (upd Hb p o) (upd H p o) where
  per := same_new (s.no h)
  keep := fun a u e _ => by
    rw [upd_ne (ne_of_none e h)]
    exact e
  hid := fun a _ e k => by
    have n : a ≠ p := fun z => k (z ▸ h)
    rw [upd_ne n]
    exact e
  there := fun a k => by
    have n : a ≠ p := fun z => k (z ▸ h)
    rw [upd_ne n]
    exact k
theorem Sub.new {Hb H : Hp} {p : Addr} {o : HO} (s : Sub Hb H) : Sub (upd Hb p o) (upd H p o) := fun a u e => by
  by_cases n : a = p
  · subst n
    rw [upd_same] at e ⊢
    exact .inl e
  · rw [upd_ne n] at e ⊢
    exact s a u e
/-- a new object, not told as data -/
theorem Grow.newH {O : Addr → Prop} {Hb H : Hp} {p : Addr} {o : HO} (h : H p = none) : Grow O Hb H Hb (upd H p o) where
  per := Same.refl _
  keep := fun a u e _ => by
    rw [upd_ne (ne_of_none e h)]
    exact e
  hid := fun a _ e _ => e
  there := fun a k => by
    have n : a ≠ p := fun z => k (z ▸ h)
    rw [upd_ne n]
    exact k
theorem Sub.newH {Hb H : Hp} {p : Addr} {o : HO} (s : Sub Hb H) (h : Hb p = Option.none) : Sub Hb (upd H p o) := fun a u e => by
  rw [upd_ne (ne_of_none e h)]
  exact s a u e
/-- an object of O is written -/
theorem Grow.write {O : Addr → Prop} {Hb H : Hp} {p : Addr} {o : HO} (h : O p) : Grow O Hb H Hb (upd H p o) where
  per := Same.refl _
  keep := fun a u e n => by
    have z : a ≠ p := fun z => n (z ▸ h)
    rw [upd_ne z]
    exact e
  hid := fun a _ e _ => e
  there := fun a k => by
    by_cases z : a = p
    · subst z
      rw [upd_same]
      simp
    · rw [upd_ne z]
      exact k

/-! ### the slots of a def, by data -/
/-- an own object (nobody else holds it): a list, a dict -/
inductive OD where
  | lst (ds : List PyData)
  | dic (ks : List (PyData × PyData))
inductive Sl where
  | un
  | pd (d : PyData)
  | ow (o : OD)
abbrev DEnv := List Sl
def OwOk (K : PySem.W.Frag) (Hb : Hp) : OD → HO → Prop
  | .lst ds, u => ∃ vs, u = .lst vs ∧ DaAll K Hb vs ds
  | .dic ks, u => ∃ kvs, u = .dK kvs ∧ DaKv K Hb kvs ks
theorem OwOk.mono {K : PySem.W.Frag} {Hb Hb2 : Hp} (e : RdLe Hb Hb2) {o : OD} {u : HO} (h : OwOk K Hb o u) : OwOk K Hb2 o u := by
  cases o with
  | lst ds =>
    obtain ⟨vs, e1, e2⟩ := h
    exact ⟨vs, e1, e2.mono e⟩
  | dic ks =>
    obtain ⟨vs, e1, e2⟩ := h
    exact ⟨vs, e1, e2.mono e⟩
def SlOk (K : PySem.W.Frag) (Hb H : Hp) (x : Option (Option V)) : Sl → Prop
  | .un => True
  | .pd d => ∃ v, x = some (some v) ∧ Da K Hb v d
  | .ow o => ∃ p u, x = some (some (.ref p)) ∧ Hb p = none ∧ H p = some u ∧ OwOk K Hb o u
def Owned (σ : L2.St) (ρ : DEnv) (p : Addr) : Prop := ∃ (i : Nat) (o : OD), ρ[i]? = some (.ow o) ∧ σ[i]? = some (some (.ref p))
structure Ok (K : PySem.W.Frag) (σ : L2.St) (Hb H : Hp) (ρ : DEnv) : Prop where
  len : ρ.length = σ.length
  sub : Sub Hb H
  sl : ∀ (i : Nat) (s : Sl), ρ[i]? = some s → SlOk K Hb H σ[i]? s
  ap : ∀ (i j : Nat) (o o' : OD) (p : Addr), ρ[i]? = some (.ow o) → ρ[j]? = some (.ow o') → σ[i]? = some (some (.ref p)) → σ[j]? = some (some (.ref p)) → i = j
/-- own objects may hold other things, all else is as it was -/
def Like (ρ ρ' : DEnv) : Prop := ρ.length = ρ'.length ∧ ∀ i : Nat, ρ[i]? = ρ'[i]? ∨ ∃ o o', ρ[i]? = some (.ow o) ∧ ρ'[i]? = some (.ow o')
theorem Like.refl (ρ : DEnv) : Like ρ ρ := ⟨rfl, fun _ => .inl rfl⟩
theorem Like.ow {ρ ρ' : DEnv} (h : Like ρ ρ') {i : Nat} {o : OD} (e : ρ'[i]? = some (.ow o)) : ∃ o', ρ[i]? = some (.ow o') := by
  rcases h.2 i with q | ⟨o1, o2, q1, q2⟩
  · exact ⟨o, q.trans e⟩
  · exact ⟨o1, q1⟩
theorem Like.symm {ρ ρ' : DEnv} (h : Like ρ ρ') : Like ρ' ρ := ⟨h.1.symm, fun i => (h.2 i).imp Eq.symm fun ⟨o, o', a, b⟩ => ⟨o', o, b, a⟩⟩
theorem Like.trans {ρ ρ1 ρ2 : DEnv} (h : Like ρ ρ1) (h' : Like ρ1 ρ2) : Like ρ ρ2 := ⟨h.1.trans h'.1, fun i => by
  rcases h.2 i with q | ⟨o1, o2, q1, q2⟩
  · rw [q]
    exact h'.2 i
  · rcases h'.2 i with r | ⟨o3, o4, r1, r2⟩
    · exact .inr ⟨o1, o2, q1, r ▸ q2⟩
    · exact .inr ⟨o1, o4, q1, r2⟩⟩
theorem Like.owned {σ : L2.St} {ρ ρ' : DEnv} (h : Like ρ ρ') {p : Addr} (q : Owned σ ρ' p) : Owned σ ρ p := by
  obtain ⟨i, o, e, s⟩ := q
  obtain ⟨o', e'⟩ := h.ow e
  exact ⟨i, o', e', s⟩
theorem Like.set {ρ : DEnv} {i : Nat} {o o' : OD} (h : ρ[i]? = some (.ow o)) : Like ρ (ρ.set i (.ow o')) := ⟨by simp, fun j => by
  by_cases e : i = j
  · subst e
    have hl := (List.getElem?_eq_some_iff.mp h).1
    exact .inr ⟨o, o', h, by rw [List.getElem?_set_self hl]⟩
  · rw [List.getElem?_set_ne e]
    exact .inl rfl⟩
section
variable {K : PySem.W.Frag} {σ : L2.St} {Hb H Hb2 H2 : Hp} {ρ ρ' : DEnv}
theorem Ok.own (h : Ok K σ Hb H ρ) {i : Nat} {o : OD} (e : ρ[i]? = some (.ow o)) : ∃ p u, σ[i]? = some (some (.ref p)) ∧ Hb p = none ∧ H p = some u ∧ OwOk K Hb o u := h.sl i _ e
theorem Ok.pd (h : Ok K σ Hb H ρ) {i : Nat} {d : PyData} (e : ρ[i]? = some (.pd d)) : ∃ v, σ[i]? = some (some v) ∧ Da K Hb v d := h.sl i _ e
/-- nothing of the own objects has changed -/
theorem Ok.grow (h : Ok K σ Hb H ρ) (g : Grow N0 Hb H Hb2 H2) (s : Sub Hb2 H2) : Ok K σ Hb2 H2 ρ := by
  refine ⟨h.len, s, fun i x e => ?_, h.ap⟩
  have q := h.sl i x e
  cases x with
  | un => trivial
  | pd d =>
    obtain ⟨v, e1, e2⟩ := q
    exact ⟨v, e1, e2.mono (same_rd g.per)⟩
  | ow o =>
    obtain ⟨p, u, e1, e2, e3, e4⟩ := q
    exact ⟨p, u, e1, g.hid p (fun z => z) e2 (by rw [e3]; simp), g.keep p u e3 fun z => z, e4.mono (same_rd g.per)⟩
/-- the own object of a slot is written -/
theorem Ok.write (h : Ok K σ Hb H ρ) {i : Nat} {o o' : OD} {p : Addr} {u : HO} (e : ρ[i]? = some (.ow o)) (es : σ[i]? = some (some (.ref p))) (q : OwOk K Hb o' u) : Ok K σ Hb (upd H p u) (ρ.set i (.ow o')) := by
  have hp : Hb p = none := by
    obtain ⟨p', _, e1, e2, _⟩ := h.own e
    rw [es] at e1
    cases e1
    exact e2
  have hl := (List.getElem?_eq_some_iff.mp e).1
  refine ⟨by rw [List.length_set]; exact h.len, fun a x ea => ?_, fun j x ej => ?_, fun j k o1 o2 r ej ek sj sk => ?_⟩
  · rw [upd_ne (ne_of_none ea hp)]
    exact h.sub a x ea
  · by_cases n : i = j
    · subst n
      rw [List.getElem?_set_self hl] at ej
      cases ej
      exact ⟨p, u, es, hp, upd_same, q⟩
    · rw [List.getElem?_set_ne n] at ej
      have z := h.sl j x ej
      cases x with
      | un => trivial
      | pd d => exact z
      | ow o2 =>
        obtain ⟨p2, u2, e1, e2, e3, e4⟩ := z
        refine ⟨p2, u2, e1, e2, ?_, e4⟩
        rw [upd_ne]
        · exact e3
        · rintro rfl
          exact n (h.ap i j o o2 p2 e ej es e1)
  · have back : ∀ (m : Nat) (o3 : OD), (ρ.set i (.ow o'))[m]? = some (.ow o3) → ∃ o4, ρ[m]? = some (.ow o4) := fun m o3 em => (Like.set (o' := o') e).ow em
    obtain ⟨_, e1⟩ := back j o1 ej
    obtain ⟨_, e2⟩ := back k o2 ek
    exact h.ap j k _ _ r e1 e2 sj sk
end

/-! ### what is wanted of a value that comes: it is told as data over the same, or grown, data -/
def Ret (K : PySem.W.Frag) (Hb H : Hp) (P : PyData → Prop) (Q : VK) : Prop := ∀ v d Hb2 H2, Sub Hb2 H2 → Grow N0 Hb H Hb2 H2 → Da K Hb2 v d → P d → Q v H2
section
variable {K : PySem.W.Frag} {Hb H : Hp} {P : PyData → Prop} {Q : VK}
theorem Ret.val (r : Ret K Hb H P Q) (s : Sub Hb H) {v : V} {d : PyData} (h : Da K Hb v d) (p : P d) : Q v H := r v d Hb H s (Grow.refl _ _ _) h p
theorem Ret.tup (r : Ret K Hb H P Q) (s : Sub Hb H) {vs : List V} {ds : List PyData} {a : Addr} (n : H a = none) (h : DaAll K Hb vs ds) (p : P (.tuple ds)) : Q (.ref a) (upd H a (.tup vs)) :=
  r _ _ (upd Hb a (.tup vs)) _ s.new (Grow.new s n) (.tup (.inl (.inl upd_same)) (h.mono (same_rd (same_new (s.no n))))) p
theorem Ret.lst (r : Ret K Hb H P Q) (s : Sub Hb H) {vs : List V} {ds : List PyData} {a : Addr} (n : H a = none) (h : DaAll K Hb vs ds) (p : P (.list ds)) : Q (.ref a) (upd H a (.lst vs)) :=
  r _ _ (upd Hb a (.lst vs)) _ s.new (Grow.new s n) (.lst (.inl (.inl upd_same)) (h.mono (same_rd (same_new (s.no n))))) p
end
end DL

/-! The data layer: judgements. EW: an expression comes to data; TW: a test; AW: arguments; EN: a new list or dict; SW, SsW: statements; GW: a target. -/
namespace DL
open PySem PySem.Spec PyProof.Rows L2

/-! ### expressions -/
def tW (K : PySem.W.Frag) (ρ : DEnv) (Post : PyData → DEnv → Prop) : TE := fun σ H Q => ∃ Hb, Ok K σ Hb H ρ ∧ ∀ v d Hb2 H2 ρ', Ok K σ Hb2 H2 ρ' → Grow (Owned σ ρ) Hb H Hb2 H2 → Like ρ ρ' → Da K Hb2 v d → Post d ρ' → Q v H2
def tWT (K : PySem.W.Frag) (ρ : DEnv) (Post : Bool → DEnv → Prop) : TT := fun σ H Q => ∃ Hb, Ok K σ Hb H ρ ∧ ∀ b Hb2 H2 ρ', Ok K σ Hb2 H2 ρ' → Grow (Owned σ ρ) Hb H Hb2 H2 → Like ρ ρ' → Post b ρ' → Q b H2
def tWA (K : PySem.W.Frag) (ρ : DEnv) (Post : List PyData → DEnv → Prop) : TA := fun σ H Q => ∃ Hb, Ok K σ Hb H ρ ∧ ∀ vs ds Hb2 H2 ρ', Ok K σ Hb2 H2 ρ' → Grow (Owned σ ρ) Hb H Hb2 H2 → Like ρ ρ' → DaAll K Hb2 vs ds → Post ds ρ' → Q vs H2
def tN (K : PySem.W.Frag) (ρ : DEnv) (Post : OD → DEnv → Prop) : TE := fun σ H Q => ∃ Hb, Ok K σ Hb H ρ ∧ ∀ p u o Hb2 H2 ρ', Ok K σ Hb2 H2 ρ' → Grow (Owned σ ρ) Hb H Hb2 H2 → Like ρ ρ' → H p = none → Hb2 p = none → H2 p = some u → OwOk K Hb2 o u → Post o ρ' → Q (.ref p) H2
def EW (X : Cx) (e : Expr) (ρ : DEnv) (Post : PyData → DEnv → Prop) : Prop := PE X e (tW X.K ρ Post)
def TW (X : Cx) (e : Expr) (ρ : DEnv) (Post : Bool → DEnv → Prop) : Prop := PT X e (tWT X.K ρ Post)
def TWW (X : Cx) (e : Expr) (ρ : DEnv) (Post : Bool → DEnv → Prop) : Prop := PW X e (tWT X.K ρ Post)
def AW (X : Cx) (es : List Expr) (ρ : DEnv) (Post : List PyData → DEnv → Prop) : Prop := PA X es (tWA X.K ρ Post)
def EN (X : Cx) (e : Expr) (ρ : DEnv) (Post : OD → DEnv → Prop) : Prop := PE X e (tN X.K ρ Post)
/-- the strongest reading there is -/
def tAny (X : Cx) (e : Expr) : TE := fun σ H Q => ∀ pins s, Inv X pins σ H s → wpAny (model X.prog X.w) X.A (eval e X.env) (EP X pins σ Q) X.xe s
def tAnyT (X : Cx) (e : Expr) : TT := fun σ H Q => ∀ pins s, Inv X pins σ H s → wpAny (model X.prog X.w) X.A (isTrue e X.env (eval e X.env)) (TP X pins σ Q) X.xe s
def tAnyW (X : Cx) (e : Expr) : TT := fun σ H Q => ∀ wh pins s, Inv X pins σ H s → wpAny (model X.prog X.w) X.A (isTrue e X.env wh) (TP X pins σ Q) X.xe s
def tAnyA (X : Cx) (es : List Expr) : TA := fun σ H Q => ∀ pos pins s, Inv X pins σ H s → wpAny (model X.prog X.w) X.A (spliced (backTo pos (starEach es X.env))) (AP X pins σ Q) X.xe s
def tAnyS (X : Cx) (st : Stmt) : TS := fun D σ H => ∀ pins s, Inv X pins σ H s → wpAny (model X.prog X.w) X.A (exec st X.env) (SP X pins D) X.xe s
def tAnySs (X : Cx) (st : List Stmt) : TS := fun D σ H => ∀ pins s, Inv X pins σ H s → wpAny (model X.prog X.w) X.A (execs st X.env) (SP X pins D) X.xe s
def tAnyG (X : Cx) (tg : Expr) : TG := fun v σ H Q => ∀ pins s u, Inv X pins σ H s → RelV v u → wpAny (model X.prog X.w) X.A (assign tg X.env u) (fun _ s' => ∃ σ' H', Inv X pins σ' H' s' ∧ Q σ' H') X.xe s
section
variable {X : Cx} {ρ : DEnv}
theorem pe_any (e : Expr) : PE X e (tAny X e) := ⟨fun pins s σ H Q I h => h pins s I⟩
theorem pt_any (e : Expr) : PT X e (tAnyT X e) := ⟨fun pins s σ H Q I h => h pins s I⟩
theorem pw_any (e : Expr) : PW X e (tAnyW X e) := ⟨fun wh pins s σ H Q I h => h wh pins s I⟩
theorem pa_any (es : List Expr) : PA X es (tAnyA X es) := ⟨fun pos pins s σ H Q I h => h pos pins s I⟩
theorem ps_any (st : Stmt) : PS X st (tAnyS X st) := ⟨fun pins s σ H D I h => h pins s I⟩
theorem pss_any (st : List Stmt) : PSs X st (tAnySs X st) := ⟨fun pins s σ H D I h => h pins s I⟩
theorem pg_any (tg : Expr) : PG X tg (tAnyG X tg) := ⟨fun pins s σ H v u Q I r h => h pins s u I r⟩
theorem EW.use {e : Expr} {Post : PyData → DEnv → Prop} (h : EW X e ρ Post) {σ : L2.St} {H : Hp} {Q : VK} (w : tW X.K ρ Post σ H Q) : tAny X e σ H Q := fun pins s I => h.run pins s σ H Q I w
theorem EN.use {e : Expr} {Post : OD → DEnv → Prop} (h : EN X e ρ Post) {σ : L2.St} {H : Hp} {Q : VK} (w : tN X.K ρ Post σ H Q) : tAny X e σ H Q := fun pins s I => h.run pins s σ H Q I w
theorem TW.use {e : Expr} {Post : Bool → DEnv → Prop} (h : TW X e ρ Post) {σ : L2.St} {H : Hp} {Q : Bool → Hp → Prop} (w : tWT X.K ρ Post σ H Q) : tAnyT X e σ H Q := fun pins s I => h.run pins s σ H Q I w
theorem TWW.use {e : Expr} {Post : Bool → DEnv → Prop} (h : TWW X e ρ Post) {σ : L2.St} {H : Hp} {Q : Bool → Hp → Prop} (w : tWT X.K ρ Post σ H Q) : tAnyW X e σ H Q := fun wh pins s I => h.run wh pins s σ H Q I w
theorem AW.use {es : List Expr} {Post : List PyData → DEnv → Prop} (h : AW X es ρ Post) {σ : L2.St} {H : Hp} {Q : List V → Hp → Prop} (w : tWA X.K ρ Post σ H Q) : tAnyA X es σ H Q := fun pos pins s I => h.run pos pins s σ H Q I w
theorem EW.by {e : Expr} {t : TE} {Post : PyData → DEnv → Prop} (h : PE X e t) (w : ∀ σ H Q, tW X.K ρ Post σ H Q → t σ H Q) : EW X e ρ Post := ⟨fun pins s σ H Q I q => h.run pins s σ H Q I (w σ H Q q)⟩
theorem EN.by {e : Expr} {t : TE} {Post : OD → DEnv → Prop} (h : PE X e t) (w : ∀ σ H Q, tN X.K ρ Post σ H Q → t σ H Q) : EN X e ρ Post := ⟨fun pins s σ H Q I q => h.run pins s σ H Q I (w σ H Q q)⟩
theorem TW.by {e : Expr} {t : TT} {Post : Bool → DEnv → Prop} (h : PT X e t) (w : ∀ σ H Q, tWT X.K ρ Post σ H Q → t σ H Q) : TW X e ρ Post := ⟨fun pins s σ H Q I q => h.run pins s σ H Q I (w σ H Q q)⟩
theorem TWW.by {e : Expr} {t : TT} {Post : Bool → DEnv → Prop} (h : PW X e t) (w : ∀ σ H Q, tWT X.K ρ Post σ H Q → t σ H Q) : TWW X e ρ Post := ⟨fun wh pins s σ H Q I q => h.run wh pins s σ H Q I (w σ H Q q)⟩
theorem AW.by {es : List Expr} {t : TA} {Post : List PyData → DEnv → Prop} (h : PA X es t) (w : ∀ σ H Q, tWA X.K ρ Post σ H Q → t σ H Q) : AW X es ρ Post := ⟨fun pos pins s σ H Q I q => h.run pos pins s σ H Q I (w σ H Q q)⟩
theorem EW.mono {e : Expr} {P P' : PyData → DEnv → Prop} (h : EW X e ρ P) (i : ∀ d ρ', P d ρ' → P' d ρ') : EW X e ρ P' := EW.by h fun σ H Q ⟨Hb, ok, q⟩ => ⟨Hb, ok, fun v d Hb2 H2 ρ' a b c d' p => q v d Hb2 H2 ρ' a b c d' (i _ _ p)⟩
theorem EN.mono {e : Expr} {P P' : OD → DEnv → Prop} (h : EN X e ρ P) (i : ∀ d ρ', P d ρ' → P' d ρ') : EN X e ρ P' := EN.by h fun σ H Q ⟨Hb, ok, q⟩ => ⟨Hb, ok, fun p u o Hb2 H2 ρ' a b c d e f g z => q p u o Hb2 H2 ρ' a b c d e f g (i _ _ z)⟩
theorem TW.mono {e : Expr} {P P' : Bool → DEnv → Prop} (h : TW X e ρ P) (i : ∀ d ρ', P d ρ' → P' d ρ') : TW X e ρ P' := TW.by h fun σ H Q ⟨Hb, ok, q⟩ => ⟨Hb, ok, fun b Hb2 H2 ρ' a c d p => q b Hb2 H2 ρ' a c d (i _ _ p)⟩
/-- the reading of an expression in the middle of another one: e, then what the continuation asks -/
theorem EW.go {e : Expr} {P : PyData → DEnv → Prop} {σ : L2.St} {H : Hp} {Q : VK} {ρ0 : DEnv} {Hb0 H0 Hb : Hp} (h : EW X e ρ P) (ok : Ok X.K σ Hb H ρ) (g : Grow (Owned σ ρ0) Hb0 H0 Hb H) (lk : Like ρ0 ρ)
    (k : ∀ v d Hb2 H2 ρ', Ok X.K σ Hb2 H2 ρ' → Grow (Owned σ ρ0) Hb0 H0 Hb2 H2 → Same Hb Hb2 → Like ρ0 ρ' → Da X.K Hb2 v d → P d ρ' → Q v H2) : tAny X e σ H Q :=
  h.use ⟨Hb, ok, fun v d Hb2 H2 ρ' ok' g' l' dv p => k v d Hb2 H2 ρ' ok' (g.trans g' fun p q => .inl (lk.owned q)) g'.per (lk.trans l') dv p⟩
theorem TW.go {e : Expr} {P : Bool → DEnv → Prop} {σ : L2.St} {H : Hp} {Q : Bool → Hp → Prop} {ρ0 : DEnv} {Hb0 H0 Hb : Hp} (h : TW X e ρ P) (ok : Ok X.K σ Hb H ρ) (g : Grow (Owned σ ρ0) Hb0 H0 Hb H) (lk : Like ρ0 ρ)
    (k : ∀ b Hb2 H2 ρ', Ok X.K σ Hb2 H2 ρ' → Grow (Owned σ ρ0) Hb0 H0 Hb2 H2 → Same Hb Hb2 → Like ρ0 ρ' → P b ρ' → Q b H2) : tAnyT X e σ H Q :=
  h.use ⟨Hb, ok, fun b Hb2 H2 ρ' ok' g' l' p => k b Hb2 H2 ρ' ok' (g.trans g' fun p q => .inl (lk.owned q)) g'.per (lk.trans l') p⟩
theorem TWW.go {e : Expr} {P : Bool → DEnv → Prop} {σ : L2.St} {H : Hp} {Q : Bool → Hp → Prop} {ρ0 : DEnv} {Hb0 H0 Hb : Hp} (h : TWW X e ρ P) (ok : Ok X.K σ Hb H ρ) (g : Grow (Owned σ ρ0) Hb0 H0 Hb H) (lk : Like ρ0 ρ)
    (k : ∀ b Hb2 H2 ρ', Ok X.K σ Hb2 H2 ρ' → Grow (Owned σ ρ0) Hb0 H0 Hb2 H2 → Same Hb Hb2 → Like ρ0 ρ' → P b ρ' → Q b H2) : tAnyW X e σ H Q :=
  h.use ⟨Hb, ok, fun b Hb2 H2 ρ' ok' g' l' p => k b Hb2 H2 ρ' ok' (g.trans g' fun p q => .inl (lk.owned q)) g'.per (lk.trans l') p⟩
theorem AW.go {es : List Expr} {P : List PyData → DEnv → Prop} {σ : L2.St} {H : Hp} {Q : List V → Hp → Prop} {ρ0 : DEnv} {Hb0 H0 Hb : Hp} (h : AW X es ρ P) (ok : Ok X.K σ Hb H ρ) (g : Grow (Owned σ ρ0) Hb0 H0 Hb H) (lk : Like ρ0 ρ)
    (k : ∀ vs ds Hb2 H2 ρ', Ok X.K σ Hb2 H2 ρ' → Grow (Owned σ ρ0) Hb0 H0 Hb2 H2 → Same Hb Hb2 → Like ρ0 ρ' → DaAll X.K Hb2 vs ds → P ds ρ' → Q vs H2) : tAnyA X es σ H Q :=
  h.use ⟨Hb, ok, fun vs ds Hb2 H2 ρ' ok' g' l' dv p => k vs ds Hb2 H2 ρ' ok' (g.trans g' fun p q => .inl (lk.owned q)) g'.per (lk.trans l') dv p⟩
/-- behind all parts: a value that comes without any change of own objects -/
theorem fin0 {K : PySem.W.Frag} {σ : L2.St} {H0 Hb0 Hb H : Hp} {ρ0 ρ1 : DEnv} {Post : PyData → DEnv → Prop} {Q : VK}
    (q : ∀ v d Hb2 H2 ρ', Ok K σ Hb2 H2 ρ' → Grow (Owned σ ρ0) Hb0 H0 Hb2 H2 → Like ρ0 ρ' → Da K Hb2 v d → Post d ρ' → Q v H2) (ok : Ok K σ Hb H ρ1) (g : Grow (Owned σ ρ0) Hb0 H0 Hb H) (lk : Like ρ0 ρ1) : Ret K Hb H (fun d => Post d ρ1) Q :=
  fun v d Hb2 H2 s g2 dv p => q v d Hb2 H2 ρ1 (ok.grow g2 s) (g.trans0 g2) lk dv p

/-! ### names, constants -/
theorem ew_name {x : Str} {pos : Pos} {Post : PyData → DEnv → Prop} (i : Nat) {d : PyData} (hp : PE X (.Name x pos) (tVar i)) (e : ρ[i]? = some (.pd d)) (h : Post d ρ) : EW X (.Name x pos) ρ Post :=
  EW.by hp fun σ H Q ⟨Hb, ok, q⟩ => by
    obtain ⟨v, e1, e2⟩ := ok.pd e
    exact ⟨v, e1, q v d Hb H ρ ok (Grow.refl _ _ _) (Like.refl _) e2 h⟩
theorem ew_const {e : Expr} {v : V} {Post : PyData → DEnv → Prop} {d : PyData} (hp : PE X e (tC v)) (dv : ∀ Hb, Da X.K Hb v d) (h : Post d ρ) : EW X e ρ Post :=
  EW.by hp fun σ H Q ⟨Hb, ok, q⟩ => q v d Hb H ρ ok (Grow.refl _ _ _) (Like.refl _) (dv Hb) h
theorem ew_int {i : Int} {j : Nat} {pos : Pos} {Post : PyData → DEnv → Prop} (h : Post (.int i) ρ) : EW X (.Constant (.int i) j pos) ρ Post := ew_const pe_int (fun _ => .int i) h
theorem ew_bl {b : Bool} {j : Nat} {pos : Pos} {Post : PyData → DEnv → Prop} (h : Post (.bool b) ρ) : EW X (.Constant (.bool b) j pos) ρ Post := ew_const pe_bl (fun _ => .bl b) h
theorem ew_non {j : Nat} {pos : Pos} {Post : PyData → DEnv → Prop} (h : Post .none ρ) : EW X (.Constant .none j pos) ρ Post := ew_const pe_non (fun _ => .non) h
theorem ew_str {x : Str} {j : Nat} {pos : Pos} {Post : PyData → DEnv → Prop} (h : Post (.str x) ρ) : EW X (.Constant (.str x) j pos) ρ Post := ew_const pe_str (fun _ => .str x) h

/-! ### operators: OpD tells an operator by data -/
abbrev G2 := PyData → PyData → (PyData → Prop) → Prop
abbrev G1 := PyData → (PyData → Prop) → Prop
abbrev GA := List PyData → (PyData → Prop) → Prop
def OpD (X : Cx) (f : Value → Value → Sem Value) (g : G2) : Prop := ∃ r : R2, OpR X f r ∧ ∀ Hb H x y dx dy (P : PyData → Prop) (Q : VK), Da X.K Hb x dx → Da X.K Hb y dy → Sub Hb H → g dx dy P → Ret X.K Hb H P Q → r x y H Q
def UnD (X : Cx) (f : Value → Sem Value) (g : G1) : Prop := ∃ r : V → Hp → VK → Prop, UnR X f r ∧ ∀ Hb H x dx (P : PyData → Prop) (Q : VK), Da X.K Hb x dx → Sub Hb H → g dx P → Ret X.K Hb H P Q → r x H Q
def CallD (X : Cx) (f : Value) (g : GA) : Prop := ∃ r : List V → Hp → VK → Prop, CallR X f r ∧ ∀ Hb H xs ds (P : PyData → Prop) (Q : VK), DaAll X.K Hb xs ds → Sub Hb H → g ds P → Ret X.K Hb H P Q → r xs H Q
/-- one of two -/
theorem OpD.or {f : Value → Value → Sem Value} {g g' : G2} (h : OpD X f g) (h' : OpD X f g') : OpD X f fun x y P => g x y P ∨ g' x y P := by
  obtain ⟨r, o, q⟩ := h
  obtain ⟨r', o', q'⟩ := h'
  refine ⟨fun x y H Q => r x y H Q ∨ r' x y H Q, fun pins s σ H x y v u Q I rx ry z => z.elim (o pins s σ H x y v u Q I rx ry) (o' pins s σ H x y v u Q I rx ry), fun Hb H x y dx dy P Q a b s g k => g.imp (fun z => q Hb H x y dx dy P Q a b s z k) fun z => q' Hb H x y dx dy P Q a b s z k⟩
theorem OpD.imp {f : Value → Value → Sem Value} {g g' : G2} (h : OpD X f g) (i : ∀ x y P, g' x y P → g x y P) : OpD X f g' := by
  obtain ⟨r, o, q⟩ := h
  exact ⟨r, o, fun Hb H x y dx dy P Q a b s z k => q Hb H x y dx dy P Q a b s (i _ _ _ z) k⟩
theorem CallD.or {f : Value} {g g' : GA} (h : CallD X f g) (h' : CallD X f g') : CallD X f fun x P => g x P ∨ g' x P := by
  obtain ⟨r, o, q⟩ := h
  obtain ⟨r', o', q'⟩ := h'
  refine ⟨fun x H Q => r x H Q ∨ r' x H Q, fun pins s σ H x v Q I rx z => z.elim (o pins s σ H x v Q I rx) (o' pins s σ H x v Q I rx), fun Hb H x dx P Q a s g k => g.imp (fun z => q Hb H x dx P Q a s z k) fun z => q' Hb H x dx P Q a s z k⟩
theorem CallD.imp {f : Value} {g g' : GA} (h : CallD X f g) (i : ∀ x P, g' x P → g x P) : CallD X f g' := by
  obtain ⟨r, o, q⟩ := h
  exact ⟨r, o, fun Hb H x dx P Q a s z k => q Hb H x dx P Q a s (i _ _ z) k⟩
variable {a b : Expr} {pos : Pos} {Post : PyData → DEnv → Prop}
theorem ew_bin {op : Operator} {g : G2} (ho : OpD X (binaryOp op) g) (h : EW X a ρ fun x ρ1 => EW X b ρ1 fun y ρ2 => g x y fun d => Post d ρ2) : EW X (.BinOp a op b pos) ρ Post := by
  obtain ⟨r, o, q⟩ := ho
  refine EW.by (pe_op o (pe_any a) (pe_any b)) fun σ H Q ⟨Hb, ok, k⟩ => ?_
  refine h.go ok (Grow.refl _ _ _) (Like.refl _) fun v dv Hb1 H1 ρ1 ok1 g1 _ l1 d1 p1 => ?_
  refine p1.go ok1 g1 l1 fun w dw Hb2 H2 ρ2 ok2 g2 s2 l2 d2 p2 => ?_
  exact q Hb2 H2 v w dv dw _ Q (d1.mono (same_rd s2)) d2 ok2.sub p2 (fin0 k ok2 g2 l2)
theorem ew_cmp {op : CmpOp} {g : G2} (ho : OpD X (compareOp op) g) (hm : behindInMarks op b = false) (h : EW X a ρ fun x ρ1 => EW X b ρ1 fun y ρ2 => g x y fun d => Post d ρ2) : EW X (.Compare a [op] [b] pos) ρ Post := by
  obtain ⟨r, o, q⟩ := ho
  refine EW.by (pe_cmpR o (pe_any a) (pe_any b) hm) fun σ H Q ⟨Hb, ok, k⟩ => ?_
  refine h.go ok (Grow.refl _ _ _) (Like.refl _) fun v dv Hb1 H1 ρ1 ok1 g1 _ l1 d1 p1 => ?_
  refine p1.go ok1 g1 l1 fun w dw Hb2 H2 ρ2 ok2 g2 s2 l2 d2 p2 => ?_
  exact q Hb2 H2 v w dv dw _ Q (d1.mono (same_rd s2)) d2 ok2.sub p2 (fin0 k ok2 g2 l2)
/-- data that is a bool -/
def IsB (d : PyData) (P : Bool → Prop) : Prop := ∃ b, d = .bool b ∧ P b
theorem tw_cmp {op : CmpOp} {g : G2} {P : Bool → DEnv → Prop} (ho : OpD X (compareOp op) g) (hm : behindInMarks op b = false) (h : EW X a ρ fun x ρ1 => EW X b ρ1 fun y ρ2 => g x y fun d => IsB d fun k => P k ρ2) : TW X (.Compare a [op] [b] pos) ρ P := by
  obtain ⟨r, o, q⟩ := ho
  refine TW.by (pt_cmpR o (pe_any a) (pe_any b) hm) fun σ H Q ⟨Hb, ok, k⟩ => ?_
  refine h.go ok (Grow.refl _ _ _) (Like.refl _) fun v dv Hb1 H1 ρ1 ok1 g1 _ l1 d1 p1 => ?_
  refine p1.go ok1 g1 l1 fun w dw Hb2 H2 ρ2 ok2 g2 s2 l2 d2 p2 => ?_
  refine q Hb2 H2 v w dv dw _ _ (d1.mono (same_rd s2)) d2 ok2.sub p2 fun z dz Hb3 H3 s3 g3 d3 ⟨bz, e, pz⟩ => ?_
  subst e
  cases d3
  exact ⟨bz, rfl, k bz Hb3 H3 ρ2 (ok2.grow g3 s3) (g2.trans0 g3) l2 pz⟩
theorem ew_un {op : UnaryOp} {g : G1} (ho : UnD X (unaryOp op) g) (h : EW X a ρ fun x ρ1 => g x fun d => Post d ρ1) : EW X (.UnaryOp op a pos) ρ Post := by
  obtain ⟨r, o, q⟩ := ho
  refine EW.by (pe_un o (pe_any a)) fun σ H Q ⟨Hb, ok, k⟩ => ?_
  refine h.go ok (Grow.refl _ _ _) (Like.refl _) fun v dv Hb1 H1 ρ1 ok1 g1 _ l1 d1 p1 => ?_
  exact q Hb1 H1 v dv _ Q d1 ok1.sub p1 (fin0 k ok1 g1 l1)

/-! ### arguments -/
theorem aw_nil {P : List PyData → DEnv → Prop} (h : P [] ρ) : AW X [] ρ P := AW.by pa_nil fun σ H Q ⟨Hb, ok, k⟩ => k [] [] Hb H ρ ok (Grow.refl _ _ _) (Like.refl _) .nil h
theorem aw_cons {e : Expr} {es : List Expr} {P : List PyData → DEnv → Prop} (h : EW X e ρ fun d ρ1 => AW X es ρ1 fun ds ρ2 => P (d :: ds) ρ2) (hs : starEach (e :: es) X.env = (false, eval e X.env) :: starEach es X.env := by rfl) : AW X (e :: es) ρ P := by
  refine AW.by (pa_cons (pe_any e) (pa_any es) hs) fun σ H Q ⟨Hb, ok, k⟩ => ?_
  refine h.go ok (Grow.refl _ _ _) (Like.refl _) fun v dv Hb1 H1 ρ1 ok1 g1 _ l1 d1 p1 => ?_
  refine p1.go ok1 g1 l1 fun vs ds Hb2 H2 ρ2 ok2 g2 s2 l2 d2 p2 => ?_
  exact k (v :: vs) (dv :: ds) Hb2 H2 ρ2 ok2 g2 l2 (.cons (d1.mono (same_rd s2)) d2) p2
theorem small {n : Nat} (h : n ≤ 100000) : n ≤ sizeLine := Nat.le_trans h (by decide)
theorem ew_tup {es : List Expr} {x1 : Nat} (h : AW X es ρ fun ds ρ' => ds.length ≤ 1000 ∧ Post (.tuple ds) ρ') : EW X (.Tuple es x1 pos) ρ Post := by
  refine EW.by (pe_tup (pa_any es)) fun σ H Q ⟨Hb, ok, k⟩ => ?_
  refine h.go ok (Grow.refl _ _ _) (Like.refl _) fun vs ds Hb1 H1 ρ1 ok1 g1 _ l1 d1 ⟨hz, p1⟩ => ?_
  exact ⟨by rw [d1.length]; exact small (by omega), fun p hp => (fin0 k ok1 g1 l1).tup ok1.sub hp d1 p1⟩
/-- a new list -/
theorem fin0N {K : PySem.W.Frag} {σ : L2.St} {H0 Hb0 Hb H : Hp} {ρ0 ρ1 : DEnv} {Post : OD → DEnv → Prop} {Q : VK} {p : Addr} {u : HO} {o : OD}
    (q : ∀ p u o Hb2 H2 ρ', Ok K σ Hb2 H2 ρ' → Grow (Owned σ ρ0) Hb0 H0 Hb2 H2 → Like ρ0 ρ' → H0 p = none → Hb2 p = none → H2 p = some u → OwOk K Hb2 o u → Post o ρ' → Q (.ref p) H2)
    (ok : Ok K σ Hb H ρ1) (g : Grow (Owned σ ρ0) Hb0 H0 Hb H) (lk : Like ρ0 ρ1) (n : H p = none) (w : OwOk K Hb o u) (h : Post o ρ1) : Q (.ref p) (upd H p u) := by
  have n0 : H0 p = none := by
    cases e : H0 p with
    | none => rfl
    | some x => exact absurd n (g.there p (by rw [e]; simp))
  have nb : Hb p = none := ok.sub.no n
  exact q p u o Hb (upd H p u) ρ1 (ok.grow (Grow.newH n) (ok.sub.newH nb)) (g.trans0 (Grow.newH n)) lk n0 nb upd_same w h
theorem en_lst {es : List Expr} {P : OD → DEnv → Prop} (h : AW X es ρ fun ds ρ' => ds.length ≤ 1000 ∧ P (.lst ds) ρ') : EN X (.List es pos) ρ P := by
  refine EN.by (pe_lst (pa_any es)) fun σ H Q ⟨Hb, ok, k⟩ => ?_
  refine h.go ok (Grow.refl _ _ _) (Like.refl _) fun vs ds Hb1 H1 ρ1 ok1 g1 _ l1 d1 ⟨hz, p1⟩ => ?_
  exact ⟨by rw [d1.length]; exact small (by omega), fun p hp => fin0N (o := .lst ds) k ok1 g1 l1 hp ⟨vs, rfl, d1⟩ p1⟩
def OD.data : OD → PyData
  | .lst ds => .list ds
  | .dic ks => .dict ks
/-- a new object, told as data from now on -/
theorem Ok.freeze {K : PySem.W.Frag} {σ : L2.St} {Hb H : Hp} {ρ : DEnv} {p : Addr} {u : HO} (ok : Ok K σ Hb H ρ) (hp : H p = some u) (n : ¬ Owned σ ρ p) (hb : Hb p = none) : Ok K σ (upd Hb p u) H ρ := by
  refine ⟨ok.len, fun a x e => ?_, fun i s e => ?_, ok.ap⟩
  · by_cases z : a = p
    · subst z
      rw [upd_same] at e
      cases e
      exact .inl hp
    · rw [upd_ne z] at e
      exact ok.sub a x e
  · have q := ok.sl i s e
    have m := same_rd (same_new (o := u) hb)
    cases s with
    | un => trivial
    | pd d =>
      obtain ⟨v, e1, e2⟩ := q
      exact ⟨v, e1, e2.mono m⟩
    | ow o =>
      obtain ⟨r, x, e1, e2, e3, e4⟩ := q
      refine ⟨r, x, e1, ?_, e3, e4.mono m⟩
      rw [upd_ne]
      · exact e2
      · rintro rfl
        exact n ⟨i, o, e, e1⟩
theorem OwOk.da {K : PySem.W.Frag} {Hb : Hp} {p : Addr} {u : HO} {o : OD} (hb : Hb p = none) (w : OwOk K Hb o u) : Da K (upd Hb p u) (.ref p) o.data := by
  have m := same_rd (same_new (o := u) hb)
  cases o with
  | lst ds =>
    obtain ⟨vs, rfl, h⟩ := w
    exact .lst (.inl (.inl upd_same)) (h.mono m)
  | dic ks =>
    obtain ⟨kvs, rfl, h⟩ := w
    exact .dic (.inl upd_same) (h.mono m)
theorem EN.ew {e : Expr} (h : EN X e ρ fun o ρ' => Post o.data ρ') : EW X e ρ Post := by
  refine EW.by h fun σ H Q ⟨Hb, ok, k⟩ => ⟨Hb, ok, fun p u o Hb2 H2 ρ' ok2 g2 l2 n nb hp w z => ?_⟩
  have no : ¬ Owned σ ρ' p := fun q => by
    obtain ⟨i, o', e1, e2⟩ := l2.owned q
    obtain ⟨p', u', s1, _, s3, _⟩ := ok.own e1
    rw [e2] at s1
    cases s1
    rw [n] at s3
    cases s3
  refine k (.ref p) o.data (upd Hb2 p u) H2 ρ' (ok2.freeze hp no nb) ⟨g2.per.trans (same_new nb), g2.keep, fun a na e k => ?_, g2.there⟩ l2 (w.da nb) z
  have z : a ≠ p := fun z => k (z ▸ n)
  rw [upd_ne z]
  exact g2.hid a na e k
theorem ew_lst {es : List Expr} (h : AW X es ρ fun ds ρ' => ds.length ≤ 1000 ∧ Post (.list ds) ρ') : EW X (.List es pos) ρ Post := (en_lst h).ew

/-! ### tests -/
theorem tw_of {P : Bool → DEnv → Prop} (he : ∀ wh, isTrue a X.env wh = (do let v ← wh; standAt a.pos; holding [v] (truthy v))) (h : EW X a ρ fun d ρ' => IsB d fun b => P b ρ') : TW X a ρ P := by
  refine TW.by (pt_val (pe_any a) he) fun σ H Q ⟨Hb, ok, k⟩ => ?_
  refine h.go ok (Grow.refl _ _ _) (Like.refl _) fun v dv Hb1 H1 ρ1 ok1 g1 _ l1 d1 ⟨bz, e, p1⟩ => ?_
  subst e
  cases d1
  exact ⟨bz, rfl, k bz Hb1 H1 ρ1 ok1 g1 l1 p1⟩
theorem tw_not {P : Bool → DEnv → Prop} (h : TW X a ρ fun c ρ' => P (!c) ρ') : TW X (.UnaryOp .Not a pos) ρ P := by
  refine TW.by (pt_not (pt_any a)) fun σ H Q ⟨Hb, ok, k⟩ => ?_
  exact h.go ok (Grow.refl _ _ _) (Like.refl _) fun c Hb1 H1 ρ1 ok1 g1 _ l1 p1 => k (!c) Hb1 H1 ρ1 ok1 g1 l1 p1
theorem TWW.tw {P : Bool → DEnv → Prop} (h : TWW X a ρ P) : TW X a ρ P := TW.by (PW.pt h) fun _ _ _ q => q
theorem tww_and1 {P : Bool → DEnv → Prop} (h : TW X a ρ P) : TWW X (.BoolOp .And [a] pos) ρ P := TWW.by (pw_and1 h) fun _ _ _ q => q
theorem tww_or1 {P : Bool → DEnv → Prop} (h : TW X a ρ P) : TWW X (.BoolOp .Or [a] pos) ρ P := TWW.by (pw_or1 h) fun _ _ _ q => q
theorem tww_and {rest : List Expr} {P : Bool → DEnv → Prop} (h : TW X a ρ fun c ρ1 => (c = true → TWW X (.BoolOp .And (b :: rest) pos) ρ1 P) ∧ (c = false → P false ρ1)) : TWW X (.BoolOp .And (a :: b :: rest) pos) ρ P := by
  refine TWW.by (pw_and (pt_any a) (pw_any _)) fun σ H Q ⟨Hb, ok, k⟩ => ?_
  refine h.go ok (Grow.refl _ _ _) (Like.refl _) fun c Hb1 H1 ρ1 ok1 g1 _ l1 ⟨p1, p2⟩ => ?_
  cases c with
  | true => exact (p1 rfl).go ok1 g1 l1 fun c Hb2 H2 ρ2 ok2 g2 _ l2 q => k c Hb2 H2 ρ2 ok2 g2 l2 q
  | false => exact k false Hb1 H1 ρ1 ok1 g1 l1 (p2 rfl)
theorem tww_or {rest : List Expr} {P : Bool → DEnv → Prop} (h : TW X a ρ fun c ρ1 => (c = true → P true ρ1) ∧ (c = false → TWW X (.BoolOp .Or (b :: rest) pos) ρ1 P)) : TWW X (.BoolOp .Or (a :: b :: rest) pos) ρ P := by
  refine TWW.by (pw_or (pt_any a) (pw_any _)) fun σ H Q ⟨Hb, ok, k⟩ => ?_
  refine h.go ok (Grow.refl _ _ _) (Like.refl _) fun c Hb1 H1 ρ1 ok1 g1 _ l1 ⟨p1, p2⟩ => ?_
  cases c with
  | true => exact k true Hb1 H1 ρ1 ok1 g1 l1 (p1 rfl)
  | false => exact (p2 rfl).go ok1 g1 l1 fun c Hb2 H2 ρ2 ok2 g2 _ l2 q => k c Hb2 H2 ρ2 ok2 g2 l2 q
/-! .. as values, of bools -/
theorem ew_one {op : BoolOp} (h : EW X a ρ Post) : EW X (.BoolOp op [a] pos) ρ Post := EW.by (pe_one h) fun _ _ _ q => q
theorem ew_and {rest : List Expr} (h : EW X a ρ fun d ρ1 => IsB d fun c => (c = true → EW X (.BoolOp .And (b :: rest) pos) ρ1 Post) ∧ (c = false → Post (.bool false) ρ1)) : EW X (.BoolOp .And (a :: b :: rest) pos) ρ Post := by
  refine EW.by (pe_and (pe_any a) (pe_any _)) fun σ H Q ⟨Hb, ok, k⟩ => ?_
  refine h.go ok (Grow.refl _ _ _) (Like.refl _) fun v dv Hb1 H1 ρ1 ok1 g1 _ l1 d1 ⟨c, e, p1, p2⟩ => ?_
  subst e
  cases d1
  refine ⟨c, rfl, ?_⟩
  cases c with
  | true => exact (p1 rfl).go ok1 g1 l1 fun v d Hb2 H2 ρ2 ok2 g2 _ l2 dv q => k v d Hb2 H2 ρ2 ok2 g2 l2 dv q
  | false => exact k _ _ Hb1 H1 ρ1 ok1 g1 l1 (.bl false) (p2 rfl)
theorem ew_or {rest : List Expr} (h : EW X a ρ fun d ρ1 => IsB d fun c => (c = true → Post (.bool true) ρ1) ∧ (c = false → EW X (.BoolOp .Or (b :: rest) pos) ρ1 Post)) : EW X (.BoolOp .Or (a :: b :: rest) pos) ρ Post := by
  refine EW.by (pe_or (pe_any a) (pe_any _)) fun σ H Q ⟨Hb, ok, k⟩ => ?_
  refine h.go ok (Grow.refl _ _ _) (Like.refl _) fun v dv Hb1 H1 ρ1 ok1 g1 _ l1 d1 ⟨c, e, p1, p2⟩ => ?_
  subst e
  cases d1
  refine ⟨c, rfl, ?_⟩
  cases c with
  | true => exact k _ _ Hb1 H1 ρ1 ok1 g1 l1 (.bl true) (p1 rfl)
  | false => exact (p2 rfl).go ok1 g1 l1 fun v d Hb2 H2 ρ2 ok2 g2 _ l2 dv q => k v d Hb2 H2 ρ2 ok2 g2 l2 dv q
theorem ew_not (h : EW X a ρ fun d ρ1 => IsB d fun c => Post (.bool (!c)) ρ1) : EW X (.UnaryOp .Not a pos) ρ Post := by
  refine EW.by (pe_not (pe_any a)) fun σ H Q ⟨Hb, ok, k⟩ => ?_
  refine h.go ok (Grow.refl _ _ _) (Like.refl _) fun v dv Hb1 H1 ρ1 ok1 g1 _ l1 d1 ⟨c, e, p1⟩ => ?_
  subst e
  cases d1
  exact ⟨c, rfl, k _ _ Hb1 H1 ρ1 ok1 g1 l1 (.bl _) p1⟩
theorem ew_ifExp {c : Expr} (h : TW X c ρ fun k ρ1 => (k = true → EW X a ρ1 Post) ∧ (k = false → EW X b ρ1 Post)) : EW X (.IfExp c a b pos) ρ Post := by
  refine EW.by (pe_ifExp (pt_any c) (pe_any a) (pe_any b)) fun σ H Q ⟨Hb, ok, k⟩ => ?_
  refine h.go ok (Grow.refl _ _ _) (Like.refl _) fun c Hb1 H1 ρ1 ok1 g1 _ l1 ⟨p1, p2⟩ => ?_
  cases c with
  | true => exact (p1 rfl).go ok1 g1 l1 fun v d Hb2 H2 ρ2 ok2 g2 _ l2 dv q => k v d Hb2 H2 ρ2 ok2 g2 l2 dv q
  | false => exact (p2 rfl).go ok1 g1 l1 fun v d Hb2 H2 ρ2 ok2 g2 _ l2 dv q => k v d Hb2 H2 ρ2 ok2 g2 l2 dv q
end
end DL

/-! The data layer: targets, statements, loops. -/
namespace DL
open PySem PySem.Spec PyProof.Rows L2

/-! ### slots forgotten -/
def wipeD (ρ : DEnv) : List Nat → DEnv
  | [] => ρ
  | v :: vs => (wipeD ρ vs).set v .un
theorem wipeD_length (ρ : DEnv) : ∀ vs, (wipeD ρ vs).length = ρ.length
  | [] => rfl
  | v :: vs => by
    unfold wipeD
    rw [List.length_set, wipeD_length ρ vs]
theorem wipeD_get (ρ : DEnv) : ∀ (vs : List Nat) (i : Nat), i ∉ vs → (wipeD ρ vs)[i]? = ρ[i]?
  | [], i, _ => rfl
  | v :: vs, i, h => by
    unfold wipeD
    rw [List.getElem?_set_ne (show v ≠ i from fun e => h (by rw [e]; exact List.mem_cons_self)), wipeD_get ρ vs i fun z => h (List.mem_cons_of_mem _ z)]
theorem wipeD_in {ρ : DEnv} {s : Sl} : ∀ {vs : List Nat} {i : Nat}, i ∈ vs → (wipeD ρ vs)[i]? = some s → s = .un
  | [], _, h, _ => by cases h
  | v :: vs, i, h, e => by
    unfold wipeD at e
    by_cases n : v = i
    · subst n
      by_cases hl : v < (wipeD ρ vs).length
      · rw [List.getElem?_set_self hl] at e
        exact (Option.some.inj e).symm
      · rw [List.getElem?_eq_none (by simpa using hl)] at e
        cases e
    · rw [List.getElem?_set_ne n] at e
      rcases List.mem_cons.mp h with z | z
      · exact absurd z.symm n
      · exact wipeD_in z e
theorem wipeD_idem (ρ : DEnv) (vs : List Nat) : wipeD (wipeD ρ vs) vs = wipeD ρ vs := by
  refine List.ext_getElem? fun i => ?_
  by_cases hv : i ∈ vs
  · by_cases hi : i < ρ.length
    · have h1 : i < (wipeD ρ vs).length := by rw [wipeD_length]; exact hi
      have h2 : i < (wipeD (wipeD ρ vs) vs).length := by rw [wipeD_length]; exact h1
      rw [List.getElem?_eq_getElem h1, List.getElem?_eq_getElem h2]
      rw [wipeD_in hv (List.getElem?_eq_getElem h1), wipeD_in hv (List.getElem?_eq_getElem h2)]
    · rw [List.getElem?_eq_none (by rw [wipeD_length, wipeD_length]; omega), List.getElem?_eq_none (by rw [wipeD_length]; omega)]
  · rw [wipeD_get _ vs i hv]
theorem wipeD_un (ρ : DEnv) {vs : List Nat} {i : Nat} (hv : i ∈ vs) (hi : i < ρ.length) : (wipeD ρ vs)[i]? = some .un := by
  have h1 : i < (wipeD ρ vs).length := by rw [wipeD_length]; exact hi
  rw [List.getElem?_eq_getElem h1, wipeD_in hv (List.getElem?_eq_getElem h1)]
theorem wipeD_set {ρ : DEnv} {i : Nat} {s : Sl} {vs : List Nat} (h : i ∈ vs) : wipeD (ρ.set i s) vs = wipeD ρ vs := by
  refine List.ext_getElem? fun j => ?_
  by_cases hv : j ∈ vs
  · by_cases hj : j < ρ.length
    · rw [wipeD_un ρ hv hj, wipeD_un _ hv (by simpa using hj)]
    · rw [List.getElem?_eq_none (by rw [wipeD_length, List.length_set]; omega), List.getElem?_eq_none (by rw [wipeD_length]; omega)]
  · rw [wipeD_get _ vs j hv, wipeD_get _ vs j hv, List.getElem?_set_ne]
    rintro rfl
    exact hv h
theorem Like.wiped {ρ ρ' : DEnv} (l : Like ρ ρ') (vs : List Nat) : Like (wipeD ρ vs) (wipeD ρ' vs) := by
  refine ⟨by rw [wipeD_length, wipeD_length]; exact l.1, fun i => ?_⟩
  by_cases hv : i ∈ vs
  · by_cases hi : i < ρ.length
    · rw [wipeD_un ρ hv hi, wipeD_un ρ' hv (l.1 ▸ hi)]
      exact .inl rfl
    · rw [List.getElem?_eq_none (by rw [wipeD_length]; omega), List.getElem?_eq_none (by rw [wipeD_length, ← l.1]; omega)]
      exact .inl rfl
  · rw [wipeD_get _ vs i hv, wipeD_get _ vs i hv]
    exact l.2 i

/-! ### targets -/
theorem wipe_get (σ : L2.St) : ∀ (vs : List Nat) (i : Nat), i ∉ vs → (wipe σ vs)[i]? = σ[i]?
  | [], i, _ => rfl
  | v :: vs, i, h => by
    unfold wipe
    rw [List.getElem?_set_ne (show v ≠ i from fun e => h (by rw [e]; exact List.mem_cons_self)), wipe_get σ vs i fun z => h (List.mem_cons_of_mem _ z)]
theorem wipe_set {i : Nat} {x : Option V} : ∀ {σ : L2.St} {vs : List Nat}, i ∈ vs → wipe (σ.set i x) vs = wipe σ vs := by
  intro σ vs
  induction vs with
  | nil => intro h; cases h
  | cons v vs ih =>
    intro h
    unfold wipe
    by_cases m : i ∈ vs
    · rw [ih m]
    · have e : i = v := by
        rcases List.mem_cons.mp h with e | e
        · exact e
        · exact absurd e m
      subst e
      have c : ∀ ws : List Nat, i ∉ ws → wipe (σ.set i x) ws = (wipe σ ws).set i x := by
        intro ws
        induction ws with
        | nil => intro _; rfl
        | cons w ws ihw =>
          intro hn
          unfold wipe
          rw [ihw fun z => hn (List.mem_cons_of_mem _ z), List.set_comm]
          exact fun z => hn (z ▸ List.mem_cons_self)
      rw [c vs m, List.set_set]
structure FinG (K : PySem.W.Frag) (ts : List Nat) (σ : L2.St) (ρ : DEnv) (Hb H : Hp) (σ' : L2.St) (ρ' : DEnv) (Hb2 H2 : Hp) : Prop where
  ok : Ok K σ' Hb2 H2 ρ'
  gr : Grow (Owned σ ρ) Hb H Hb2 H2
  ow : ∀ p, Owned σ' ρ' p → Owned σ ρ p ∨ H p = none
  wp : wipe σ' ts = wipe σ ts
  lw : Like (wipeD ρ ts) (wipeD ρ' ts)
theorem FinG.refl {K : PySem.W.Frag} {ts : List Nat} {σ : L2.St} {ρ : DEnv} {Hb H : Hp} (ok : Ok K σ Hb H ρ) : FinG K ts σ ρ Hb H σ ρ Hb H := ⟨ok, Grow.refl _ _ _, fun _ h => .inl h, rfl, Like.refl _⟩
theorem FinG.trans {K : PySem.W.Frag} {ts : List Nat} {σ σ1 σ2 : L2.St} {ρ ρ1 ρ2 : DEnv} {Hb H Hb1 H1 Hb2 H2 : Hp} (a : FinG K ts σ ρ Hb H σ1 ρ1 Hb1 H1) (b : FinG K ts σ1 ρ1 Hb1 H1 σ2 ρ2 Hb2 H2) : FinG K ts σ ρ Hb H σ2 ρ2 Hb2 H2 where
  ok := b.ok
  gr := a.gr.trans b.gr a.ow
  ow := fun p h => (b.ow p h).elim (a.ow p) fun n => .inr (by
    cases e : H p with
    | none => rfl
    | some o => exact absurd n (a.gr.there p (by rw [e]; simp)))
  wp := b.wp.trans a.wp
  lw := a.lw.trans b.lw
theorem FinG.like {K : PySem.W.Frag} {ts : List Nat} {σ : L2.St} {ρ ρ1 : DEnv} {Hb H Hb1 H1 : Hp} (ok : Ok K σ Hb1 H1 ρ1) (g : Grow (Owned σ ρ) Hb H Hb1 H1) (l : Like ρ ρ1) : FinG K ts σ ρ Hb H σ ρ1 Hb1 H1 := ⟨ok, g, fun _ h => .inl (l.owned h), rfl, l.wiped ts⟩
def tWG (K : PySem.W.Frag) (ts : List Nat) (d : PyData) (ρ : DEnv) (Post : DEnv → Prop) : TG := fun v σ H Q => ∃ Hb, Ok K σ Hb H ρ ∧ Da K Hb v d ∧ ∀ σ' ρ' Hb2 H2, FinG K ts σ ρ Hb H σ' ρ' Hb2 H2 → Post ρ' → Q σ' H2
def GW (X : Cx) (ts : List Nat) (tg : Expr) (d : PyData) (ρ : DEnv) (Post : DEnv → Prop) : Prop := PG X tg (tWG X.K ts d ρ Post)
/-- a slot gets data -/
theorem Ok.set {K : PySem.W.Frag} {σ : L2.St} {ρ : DEnv} {Hb H : Hp} (ok : Ok K σ Hb H ρ) {i : Nat} {v : V} {d : PyData} (hv : Da K Hb v d) : Ok K (σ.set i (some v)) Hb H (ρ.set i (.pd d)) := by
  refine ⟨by rw [List.length_set, List.length_set]; exact ok.len, ok.sub, fun j s e => ?_, fun j k o o' p ej ek sj sk => ?_⟩
  · by_cases n : i = j
    · subst n
      by_cases hl : i < ρ.length
      · rw [List.getElem?_set_self hl] at e
        cases e
        exact ⟨v, by rw [List.getElem?_set_self (ok.len ▸ hl)], hv⟩
      · rw [List.getElem?_eq_none (by simpa using hl)] at e
        cases e
    · rw [List.getElem?_set_ne n] at e
      have q := ok.sl j s e
      rw [List.getElem?_set_ne n]
      exact q
  · have nj : i ≠ j := by
      rintro rfl
      by_cases hl : i < ρ.length
      · rw [List.getElem?_set_self hl] at ej
        cases ej
      · rw [List.getElem?_eq_none (by simpa using hl)] at ej
        cases ej
    have nk : i ≠ k := by
      rintro rfl
      by_cases hl : i < ρ.length
      · rw [List.getElem?_set_self hl] at ek
        cases ek
      · rw [List.getElem?_eq_none (by simpa using hl)] at ek
        cases ek
    rw [List.getElem?_set_ne nj] at ej sj
    rw [List.getElem?_set_ne nk] at ek sk
    exact ok.ap j k o o' p ej ek sj sk
theorem owned_set {σ : L2.St} {ρ : DEnv} {i : Nat} {v : V} {d : PyData} {p : Addr} (h : Owned (σ.set i (some v)) (ρ.set i (.pd d)) p) : Owned σ ρ p := by
  obtain ⟨j, o, e, s⟩ := h
  have nj : i ≠ j := by
    rintro rfl
    by_cases hl : i < ρ.length
    · rw [List.getElem?_set_self hl] at e
      cases e
    · rw [List.getElem?_eq_none (by simpa using hl)] at e
      cases e
  rw [List.getElem?_set_ne nj] at e s
  exact ⟨j, o, e, s⟩
theorem FinG.set {K : PySem.W.Frag} {ts : List Nat} {σ : L2.St} {ρ : DEnv} {Hb H : Hp} (ok : Ok K σ Hb H ρ) {i : Nat} {v : V} {d : PyData} (hv : Da K Hb v d) (hi : i ∈ ts) : FinG K ts σ ρ Hb H (σ.set i (some v)) (ρ.set i (.pd d)) Hb H :=
  ⟨ok.set hv, Grow.refl _ _ _, fun _ h => .inl (owned_set h), wipe_set hi, by rw [wipeD_set hi]; exact Like.refl _⟩
/-- a slot gets a new own object -/
theorem FinG.setN {K : PySem.W.Frag} {ts : List Nat} {σ : L2.St} {ρ ρ0 : DEnv} {Hb0 H0 Hb H : Hp} (ok : Ok K σ Hb H ρ) (g : Grow (Owned σ ρ0) Hb0 H0 Hb H) (l : Like ρ0 ρ) (ok0 : Ok K σ Hb0 H0 ρ0) {i : Nat} {p : Addr} {u : HO} {o : OD} (n : H0 p = none) (nb : Hb p = none) (hp : H p = some u) (w : OwOk K Hb o u) (hi : i ∈ ts) (hl : i < ρ.length) :
    FinG K ts σ ρ0 Hb0 H0 (σ.set i (some (.ref p))) (ρ.set i (.ow o)) Hb H := by
  have np : ∀ (j : Nat) (o' : OD), ρ[j]? = some (.ow o') → σ[j]? ≠ some (some (.ref p)) := fun j o' e s => by
    obtain ⟨o2, e2⟩ := l.ow e
    obtain ⟨q, u', s1, _, s3, _⟩ := ok0.own e2
    rw [s] at s1
    cases s1
    rw [n] at s3
    cases s3
  have hl' : i < σ.length := ok.len ▸ hl
  refine ⟨⟨by rw [List.length_set, List.length_set]; exact ok.len, ok.sub, fun j s e => ?_, fun j k o1 o2 q ej ek sj sk => ?_⟩, g, fun q h => ?_, wipe_set hi, by rw [wipeD_set hi]; exact l.wiped ts⟩
  · by_cases m : i = j
    · subst m
      rw [List.getElem?_set_self hl] at e
      cases e
      exact ⟨p, u, by rw [List.getElem?_set_self hl'], nb, hp, w⟩
    · rw [List.getElem?_set_ne m] at e
      have q := ok.sl j s e
      rw [List.getElem?_set_ne m]
      exact q
  · by_cases mj : i = j
    · by_cases mk : i = k
      · exact mj.symm.trans mk
      · subst mj
        rw [List.getElem?_set_self hl'] at sj
        rw [List.getElem?_set_ne mk] at ek sk
        cases sj
        exact absurd sk (np k o2 ek)
    · by_cases mk : i = k
      · subst mk
        rw [List.getElem?_set_self hl'] at sk
        rw [List.getElem?_set_ne mj] at ej sj
        cases sk
        exact absurd sj (np j o1 ej)
      · rw [List.getElem?_set_ne mj] at ej sj
        rw [List.getElem?_set_ne mk] at ek sk
        exact ok.ap j k o1 o2 q ej ek sj sk
  · obtain ⟨j, o1, e, s⟩ := h
    by_cases m : i = j
    · subst m
      rw [List.getElem?_set_self hl'] at s
      cases s
      exact .inr n
    · rw [List.getElem?_set_ne m] at e s
      exact .inl (l.owned ⟨j, o1, e, s⟩)
section
variable {X : Cx} {ρ : DEnv} {ts : List Nat}
theorem gw_name {x : Str} {pos : Pos} {P : DEnv → Prop} {d : PyData} (i : Nat) (hp : PG X (.Name x pos) (gName i)) (hi : i ∈ ts) (h : P (ρ.set i (.pd d))) : GW X ts (.Name x pos) d ρ P :=
  ⟨fun pins s σ H v u Q I r ⟨Hb, ok, dv, k⟩ => hp.run pins s σ H v u Q I r (k _ _ _ _ (FinG.set ok dv hi) h)⟩
theorem gw_tup2 {x y : Str} {px py pos : Pos} {k : Nat} {P : DEnv → Prop} {d1 d2 : PyData} (i j : Nat) (hx : PG X (.Name x px) (gName i)) (hy : PG X (.Name y py) (gName j)) (hc : X.calm = true) (hi : i ∈ ts) (hj : j ∈ ts) (h : P ((ρ.set i (.pd d1)).set j (.pd d2)))
    (hn : (assignEach [.Name x px, .Name y py] X.env).length = 2 := by rfl) (hst : (assignEach [.Name x px, .Name y py] X.env).findIdx? (·.1) = none := by rfl) : GW X ts (.Tuple [.Name x px, .Name y py] k pos) (.tuple [d1, d2]) ρ P := by
  refine ⟨fun pins s σ H v u Q I r ⟨Hb, ok, dv, k⟩ => ?_⟩
  refine (pg_tup hc (pgs_cons hx (pgs_cons hy pgs_nil)) hn hst).run pins s σ H v u Q I r ?_
  cases dv with
  | tup hs ha =>
    cases ha with
    | cons h1 ha =>
      cases ha with
      | cons h2 ha =>
        cases ha
        refine ⟨_, _, rfl, ok.sub.rd.t hs, rfl, _, _, rfl, _, _, rfl, rfl, ?_⟩
        exact k _ _ _ _ ((FinG.set ok h1 hi).trans (FinG.set (ok.set h1) h2 hj)) h
theorem gw_tup3 {x y z : Str} {px py pz pos : Pos} {k : Nat} {P : DEnv → Prop} {d1 d2 d3 : PyData} (i j m : Nat) (hx : PG X (.Name x px) (gName i)) (hy : PG X (.Name y py) (gName j)) (hz : PG X (.Name z pz) (gName m)) (hc : X.calm = true) (hi : i ∈ ts) (hj : j ∈ ts) (hm : m ∈ ts) (h : P (((ρ.set i (.pd d1)).set j (.pd d2)).set m (.pd d3)))
    (hn : (assignEach [.Name x px, .Name y py, .Name z pz] X.env).length = 3 := by rfl) (hst : (assignEach [.Name x px, .Name y py, .Name z pz] X.env).findIdx? (·.1) = none := by rfl) : GW X ts (.Tuple [.Name x px, .Name y py, .Name z pz] k pos) (.tuple [d1, d2, d3]) ρ P := by
  refine ⟨fun pins s σ H v u Q I r ⟨Hb, ok, dv, k⟩ => ?_⟩
  refine (pg_tup hc (pgs_cons hx (pgs_cons hy (pgs_cons hz pgs_nil))) hn hst).run pins s σ H v u Q I r ?_
  cases dv with
  | tup hs ha =>
    cases ha with
    | cons h1 ha =>
      cases ha with
      | cons h2 ha =>
        cases ha with
        | cons h3 ha =>
          cases ha
          refine ⟨_, _, rfl, ok.sub.rd.t hs, rfl, _, _, rfl, _, _, rfl, _, _, rfl, rfl, ?_⟩
          exact k _ _ _ _ (((FinG.set ok h1 hi).trans (FinG.set (ok.set h1) h2 hj)).trans (FinG.set ((ok.set h1).set h2) h3 hm)) h
end

/-! ### statements -/
structure DE where
  nx : DEnv → Prop
  rt : PyData → DEnv → Prop
  bk : DEnv → Prop := fun _ => False
  ct : DEnv → Prop := fun _ => False
  /-- an own object returned -/
  ro : OD → DEnv → Prop := fun _ _ => False
inductive RV where
  | d (x : PyData)
  | o (x : OD)
def DE.rv (D : DE) : RV → DEnv → Prop
  | .d x => D.rt x
  | .o x => D.ro x
/-- behind a statement; pr: slots that stay -/
structure Fin (K : PySem.W.Frag) (pr : List Nat) (σ : L2.St) (ρ : DEnv) (Hb H : Hp) (σ' : L2.St) (ρ' : DEnv) (Hb2 H2 : Hp) : Prop where
  ok : Ok K σ' Hb2 H2 ρ'
  gr : Grow (Owned σ ρ) Hb H Hb2 H2
  ow : ∀ p, Owned σ' ρ' p → Owned σ ρ p ∨ H p = none
  st : ∀ i ∈ pr, σ'[i]? = σ[i]?
section
variable {K : PySem.W.Frag} {pr ts : List Nat} {σ σ1 σ2 : L2.St} {ρ ρ1 ρ2 : DEnv} {Hb H Hb1 H1 Hb2 H2 : Hp}
theorem Fin.refl (ok : Ok K σ Hb H ρ) : Fin K pr σ ρ Hb H σ ρ Hb H := ⟨ok, Grow.refl _ _ _, fun _ h => .inl h, fun _ _ => rfl⟩
theorem Fin.trans (a : Fin K pr σ ρ Hb H σ1 ρ1 Hb1 H1) (b : Fin K pr σ1 ρ1 Hb1 H1 σ2 ρ2 Hb2 H2) : Fin K pr σ ρ Hb H σ2 ρ2 Hb2 H2 where
  ok := b.ok
  gr := a.gr.trans b.gr a.ow
  ow := fun p h => (b.ow p h).elim (a.ow p) fun n => .inr (by
    cases e : H p with
    | none => rfl
    | some o => exact absurd n (a.gr.there p (by rw [e]; simp)))
  st := fun i h => (b.st i h).trans (a.st i h)
theorem Fin.like (ok : Ok K σ Hb1 H1 ρ1) (g : Grow (Owned σ ρ) Hb H Hb1 H1) (l : Like ρ ρ1) : Fin K pr σ ρ Hb H σ ρ1 Hb1 H1 := ⟨ok, g, fun _ h => .inl (l.owned h), fun _ _ => rfl⟩
theorem FinG.fin (a : FinG K ts σ ρ Hb H σ1 ρ1 Hb1 H1) (h : ∀ i ∈ pr, i ∉ ts) : Fin K pr σ ρ Hb H σ1 ρ1 Hb1 H1 := ⟨a.ok, a.gr, a.ow, fun i hi => by
  rw [← wipe_get σ1 ts i (h i hi), a.wp, wipe_get σ ts i (h i hi)]⟩
end
/-- what is returned -/
def RDa (K : PySem.W.Frag) (σ : L2.St) (ρ : DEnv) (H Hb2 H2 : Hp) (v : V) : RV → Prop
  | .d x => Da K Hb2 v x
  | .o x => ∃ p u, v = .ref p ∧ (Owned σ ρ p ∨ H p = none) ∧ Hb2 p = none ∧ H2 p = some u ∧ OwOk K Hb2 x u
theorem RDa.back {K : PySem.W.Frag} {pr : List Nat} {σ σ1 σ2 : L2.St} {ρ ρ1 ρ2 : DEnv} {Hb H Hb1 H1 Hb2 H2 : Hp} {v : V} {r : RV} (h : RDa K σ2 ρ2 H1 Hb2 H2 v r) (f : Fin K pr σ ρ Hb H σ1 ρ1 Hb1 H1) : RDa K σ2 ρ2 H Hb2 H2 v r := by
  cases r with
  | d x => exact h
  | o x =>
    obtain ⟨p, u, e, w, q⟩ := h
    refine ⟨p, u, e, w.imp id fun n => ?_, q⟩
    cases e : H p with
    | none => rfl
    | some o => exact absurd n (f.gr.there p (by rw [e]; simp))
def tWS (K : PySem.W.Frag) (pr : List Nat) (ρ : DEnv) (D : DE) : TS := fun DD σ H => ∃ Hb, Ok K σ Hb H ρ ∧ (∀ σ' ρ' Hb2 H2, Fin K pr σ ρ Hb H σ' ρ' Hb2 H2 → D.nx ρ' → DD.nx σ' H2) ∧
  (∀ v r σ' ρ' Hb2 H2, Fin K pr σ ρ Hb H σ' ρ' Hb2 H2 → RDa K σ' ρ' H Hb2 H2 v r → D.rv r ρ' → DD.rt v H2) ∧ (∀ σ' ρ' Hb2 H2, Fin K pr σ ρ Hb H σ' ρ' Hb2 H2 → D.bk ρ' → DD.bk σ' H2) ∧ (∀ σ' ρ' Hb2 H2, Fin K pr σ ρ Hb H σ' ρ' Hb2 H2 → D.ct ρ' → DD.ct σ' H2)
def SW (X : Cx) (pr : List Nat) (st : Stmt) (ρ : DEnv) (D : DE) : Prop := PS X st (tWS X.K pr ρ D)
def SsW (X : Cx) (pr : List Nat) (st : List Stmt) (ρ : DEnv) (D : DE) : Prop := PSs X st (tWS X.K pr ρ D)
section
variable {X : Cx} {pr : List Nat} {ρ : DEnv} {D : DE} {pos : Pos}
theorem SW.by {st : Stmt} {t : TS} (h : PS X st t) (w : ∀ DD σ H, tWS X.K pr ρ D DD σ H → t DD σ H) : SW X pr st ρ D := ⟨fun pins s σ H DD I q => h.run pins s σ H DD I (w DD σ H q)⟩
theorem SsW.by {st : List Stmt} {t : TS} (h : PSs X st t) (w : ∀ DD σ H, tWS X.K pr ρ D DD σ H → t DD σ H) : SsW X pr st ρ D := ⟨fun pins s σ H DD I q => h.run pins s σ H DD I (w DD σ H q)⟩
/-- the rest behind a part -/
theorem SsW.go {st : List Stmt} {D' : DE} {DD : Ends} {ρ1 : DEnv} {σ σ1 : L2.St} {Hb H Hb1 H1 : Hp} (h : SsW X pr st ρ1 D') (f : Fin X.K pr σ ρ Hb H σ1 ρ1 Hb1 H1)
    (k : (∀ σ' ρ' Hb2 H2, Fin X.K pr σ ρ Hb H σ' ρ' Hb2 H2 → Same Hb1 Hb2 → D'.nx ρ' → DD.nx σ' H2) ∧ (∀ v r σ' ρ' Hb2 H2, Fin X.K pr σ ρ Hb H σ' ρ' Hb2 H2 → RDa X.K σ' ρ' H Hb2 H2 v r → D'.rv r ρ' → DD.rt v H2) ∧ (∀ σ' ρ' Hb2 H2, Fin X.K pr σ ρ Hb H σ' ρ' Hb2 H2 → D'.bk ρ' → DD.bk σ' H2) ∧ (∀ σ' ρ' Hb2 H2, Fin X.K pr σ ρ Hb H σ' ρ' Hb2 H2 → Same Hb1 Hb2 → D'.ct ρ' → DD.ct σ' H2)) : tAnySs X st DD σ1 H1 :=
  fun pins s I => h.run pins s σ1 H1 DD I ⟨Hb1, f.ok, fun σ' ρ' Hb2 H2 f2 => k.1 σ' ρ' Hb2 H2 (f.trans f2) f2.gr.per, fun v d σ' ρ' Hb2 H2 f2 r => k.2.1 v d σ' ρ' Hb2 H2 (f.trans f2) (r.back f), fun σ' ρ' Hb2 H2 f2 => k.2.2.1 σ' ρ' Hb2 H2 (f.trans f2), fun σ' ρ' Hb2 H2 f2 => k.2.2.2 σ' ρ' Hb2 H2 (f.trans f2) f2.gr.per⟩
theorem SW.go {st : Stmt} {D' : DE} {DD : Ends} {ρ1 : DEnv} {σ σ1 : L2.St} {Hb H Hb1 H1 : Hp} (h : SW X pr st ρ1 D') (f : Fin X.K pr σ ρ Hb H σ1 ρ1 Hb1 H1)
    (k : (∀ σ' ρ' Hb2 H2, Fin X.K pr σ ρ Hb H σ' ρ' Hb2 H2 → D'.nx ρ' → DD.nx σ' H2) ∧ (∀ v r σ' ρ' Hb2 H2, Fin X.K pr σ ρ Hb H σ' ρ' Hb2 H2 → RDa X.K σ' ρ' H Hb2 H2 v r → D'.rv r ρ' → DD.rt v H2) ∧ (∀ σ' ρ' Hb2 H2, Fin X.K pr σ ρ Hb H σ' ρ' Hb2 H2 → D'.bk ρ' → DD.bk σ' H2) ∧ (∀ σ' ρ' Hb2 H2, Fin X.K pr σ ρ Hb H σ' ρ' Hb2 H2 → D'.ct ρ' → DD.ct σ' H2)) : tAnyS X st DD σ1 H1 :=
  fun pins s I => h.run pins s σ1 H1 DD I ⟨Hb1, f.ok, fun σ' ρ' Hb2 H2 f2 => k.1 σ' ρ' Hb2 H2 (f.trans f2), fun v d σ' ρ' Hb2 H2 f2 r => k.2.1 v d σ' ρ' Hb2 H2 (f.trans f2) (r.back f), fun σ' ρ' Hb2 H2 f2 => k.2.2.1 σ' ρ' Hb2 H2 (f.trans f2), fun σ' ρ' Hb2 H2 f2 => k.2.2.2 σ' ρ' Hb2 H2 (f.trans f2)⟩
theorem GW.go {ts : List Nat} {tg : Expr} {P : DEnv → Prop} {d : PyData} {ρ1 : DEnv} {σ σ1 : L2.St} {Hb H Hb1 H1 : Hp} {v : V} {Q : L2.St → Hp → Prop} (h : GW X ts tg d ρ1 P) (f : Fin X.K pr σ ρ Hb H σ1 ρ1 Hb1 H1) (hd : ∀ i ∈ pr, i ∉ ts) (dv : Da X.K Hb1 v d)
    (k : ∀ σ' ρ' Hb2 H2, Fin X.K pr σ ρ Hb H σ' ρ' Hb2 H2 → Same Hb1 Hb2 → P ρ' → Q σ' H2) : tAnyG X tg v σ1 H1 Q :=
  fun pins s u I r => h.run pins s σ1 H1 v u Q I r ⟨Hb1, f.ok, dv, fun σ' ρ' Hb2 H2 f2 p => k σ' ρ' Hb2 H2 (f.trans (f2.fin hd)) f2.gr.per p⟩
theorem ssw_nil (h : D.nx ρ) : SsW X pr [] ρ D := SsW.by pss_nil fun DD σ H ⟨Hb, ok, k, _⟩ => k σ ρ Hb H (Fin.refl ok) h
theorem ssw_cons {st : Stmt} {rest : List Stmt} (h : SW X pr st ρ { D with nx := fun ρ' => SsW X pr rest ρ' D }) : SsW X pr (st :: rest) ρ D :=
  SsW.by (pss_cons (ps_any st) (pss_any rest)) fun DD σ H ⟨Hb, ok, k1, k2, k3, k4⟩ => h.go (Fin.refl ok) ⟨fun σ' ρ' Hb2 H2 f q => SsW.go q f ⟨fun σ' ρ' Hb2 H2 f _ => k1 σ' ρ' Hb2 H2 f, k2, k3, fun σ' ρ' Hb2 H2 f _ => k4 σ' ρ' Hb2 H2 f⟩, k2, k3, k4⟩
theorem sw_expr {e : Expr} (h : EW X e ρ fun _ ρ' => D.nx ρ') (hs : swapsWith e none pos.line X.env = pure false := by rfl) : SW X pr (.Expr e pos) ρ D :=
  SW.by (ps_expr (pe_any e) hs) fun DD σ H ⟨Hb, ok, k, _⟩ => h.go ok (Grow.refl _ _ _) (Like.refl _) fun v d Hb2 H2 ρ' ok' g' _ l' dv p => k σ ρ' Hb2 H2 (Fin.like ok' g' l') p
theorem sw_ret {e : Expr} (h : EW X e ρ D.rt) : SW X pr (.Return (some e) pos) ρ D :=
  SW.by (ps_ret (pe_any e)) fun DD σ H ⟨Hb, ok, _, k, _⟩ => h.go ok (Grow.refl _ _ _) (Like.refl _) fun v d Hb2 H2 ρ' ok' g' _ l' dv p => k v (.d d) σ ρ' Hb2 H2 (Fin.like ok' g' l') dv p
theorem sw_retN (h : D.rt .none ρ) : SW X pr (.Return none pos) ρ D :=
  SW.by ps_retN fun DD σ H ⟨Hb, ok, _, k, _⟩ => k .non (.d .none) σ ρ Hb H (Fin.refl ok) .non h
/-- return of an own object: a slot's -/
theorem sw_retO {x : Str} {px : Pos} (i : Nat) {o : OD} (hp : PE X (.Name x px) (tVar i)) (e : ρ[i]? = some (.ow o)) (h : D.ro o ρ) : SW X pr (.Return (some (.Name x px)) pos) ρ D := by
  refine SW.by (ps_ret hp) fun DD σ H ⟨Hb, ok, _, k, _⟩ => ?_
  obtain ⟨p, u, s1, s2, s3, s4⟩ := ok.own e
  exact ⟨_, s1, k _ (.o o) σ ρ Hb H (Fin.refl ok) ⟨p, u, rfl, .inl ⟨i, o, e, s1⟩, s2, s3, s4⟩ h⟩
theorem sw_pass (h : D.nx ρ) : SW X pr (.Pass pos) ρ D := SW.by ps_pass fun DD σ H ⟨Hb, ok, k, _⟩ => k σ ρ Hb H (Fin.refl ok) h
theorem sw_break (h : D.bk ρ) : SW X pr (.Break pos) ρ D := SW.by ps_break fun DD σ H ⟨Hb, ok, _, _, k, _⟩ => k σ ρ Hb H (Fin.refl ok) h
theorem sw_cont (h : D.ct ρ) : SW X pr (.Continue pos) ρ D := SW.by ps_continue fun DD σ H ⟨Hb, ok, _, _, _, k⟩ => k σ ρ Hb H (Fin.refl ok) h
theorem sw_if {c : Expr} {a b : List Stmt} (h : TW X c ρ fun k ρ1 => (k = true → SsW X pr a ρ1 D) ∧ (k = false → SsW X pr b ρ1 D)) : SW X pr (.If c a b pos) ρ D := by
  refine SW.by (ps_if (pt_any c) (pss_any a) (pss_any b)) fun DD σ H ⟨Hb, ok, k1, k2, k3, k4⟩ => ?_
  refine h.go ok (Grow.refl _ _ _) (Like.refl _) fun c Hb1 H1 ρ1 ok1 g1 _ l1 ⟨p1, p2⟩ => ?_
  cases c with
  | true => exact (p1 rfl).go (Fin.like ok1 g1 l1) ⟨fun σ' ρ' Hb2 H2 f _ => k1 σ' ρ' Hb2 H2 f, k2, k3, fun σ' ρ' Hb2 H2 f _ => k4 σ' ρ' Hb2 H2 f⟩
  | false => exact (p2 rfl).go (Fin.like ok1 g1 l1) ⟨fun σ' ρ' Hb2 H2 f _ => k1 σ' ρ' Hb2 H2 f, k2, k3, fun σ' ρ' Hb2 H2 f _ => k4 σ' ρ' Hb2 H2 f⟩
theorem sw_set {x : Str} {pos' : Pos} {e : Expr} (i : Nat) (hp : PS X (.Assign [.Name x pos'] e pos) (tAsg (tAny X e) (gName i))) (hi : i ∉ pr) (h : EW X e ρ fun d ρ' => D.nx (ρ'.set i (.pd d))) : SW X pr (.Assign [.Name x pos'] e pos) ρ D :=
  SW.by hp fun DD σ H ⟨Hb, ok, k, _⟩ => h.go ok (Grow.refl _ _ _) (Like.refl _) fun v d Hb2 H2 ρ' ok' g' _ l' dv p =>
    k _ _ Hb2 H2 ((Fin.like ok' g' l').trans ((FinG.set (ts := [i]) ok' dv List.mem_cons_self).fin fun j hj z => hi (by simpa using (List.mem_singleton.mp z) ▸ hj))) p
theorem EN.go {e : Expr} {P : OD → DEnv → Prop} {σ : L2.St} {H : Hp} {Q : VK} {Hb : Hp} (h : EN X e ρ P) (ok : Ok X.K σ Hb H ρ)
    (k : ∀ p u o Hb2 H2 ρ', Ok X.K σ Hb2 H2 ρ' → Grow (Owned σ ρ) Hb H Hb2 H2 → Like ρ ρ' → H p = none → Hb2 p = none → H2 p = some u → OwOk X.K Hb2 o u → P o ρ' → Q (.ref p) H2) : tAny X e σ H Q := h.use ⟨Hb, ok, k⟩
/-- return of a new own object -/
theorem sw_retE {e : Expr} (h : EN X e ρ D.ro) : SW X pr (.Return (some e) pos) ρ D :=
  SW.by (ps_ret (pe_any e)) fun DD σ H ⟨Hb, ok, _, k, _⟩ => h.go ok fun p u o Hb2 H2 ρ' ok' g' l' n nb hu w z => k _ (.o o) σ ρ' Hb2 H2 (Fin.like ok' g' l') ⟨p, u, rfl, .inr n, nb, hu, w⟩ z
theorem sw_setN {x : Str} {pos' : Pos} {e : Expr} (i : Nat) (hp : PS X (.Assign [.Name x pos'] e pos) (tAsg (tAny X e) (gName i))) (hi : i ∉ pr) (hl : i < ρ.length) (h : EN X e ρ fun o ρ' => D.nx (ρ'.set i (.ow o))) : SW X pr (.Assign [.Name x pos'] e pos) ρ D :=
  SW.by hp fun DD σ H ⟨Hb, ok, k, _⟩ => h.go ok fun p u o Hb2 H2 ρ' ok' g' l' n nb hu w z =>
    k _ _ Hb2 H2 ((FinG.setN (ts := [i]) ok' g' l' ok n nb hu w List.mem_cons_self (l'.1 ▸ hl)).fin fun j hj z => hi (by simpa using (List.mem_singleton.mp z) ▸ hj)) z
/-- any target -/
theorem sw_asg {tg e : Expr} {ts : List Nat} (h : EW X e ρ fun d ρ' => GW X ts tg d ρ' D.nx) (hd : ∀ i ∈ pr, i ∉ ts) (hs : swapsWithSole [tg] e pos.line X.env = pure false := by rfl) (hw : swappedStores [tg] e X.env = pure none := by rfl)
    (h1 : (assignEach [tg] X.env).map (·.2) = [assign tg X.env] := by rfl) : SW X pr (.Assign [tg] e pos) ρ D :=
  SW.by (ps_asg (pe_any e) (pg_any tg) hs hw h1) fun DD σ H ⟨Hb, ok, k, _⟩ => h.go ok (Grow.refl _ _ _) (Like.refl _) fun v d Hb2 H2 ρ' ok' g' _ l' dv p =>
    GW.go p (Fin.like ok' g' l') hd dv fun σ' ρ' Hb3 H3 f _ q => k σ' ρ' Hb3 H3 f q
/-- x, y = a, b -/
theorem sw_par {x y : Str} {a b : Expr} {px py pt : Pos} {kt k2 : Nat} {pt2 : Pos} (i j : Nat) (hp : PS X (.Assign [.Tuple [.Name x px, .Name y py] kt pt] (.Tuple [a, b] k2 pt2) pos) (tPar i j (tAnyA X [a, b]))) (hi : i ∉ pr) (hj : j ∉ pr)
    (h : AW X [a, b] ρ fun ds ρ' => ∃ d1 d2, ds = [d1, d2] ∧ D.nx ((ρ'.set i (.pd d1)).set j (.pd d2))) : SW X pr (.Assign [.Tuple [.Name x px, .Name y py] kt pt] (.Tuple [a, b] k2 pt2) pos) ρ D := by
  refine SW.by hp fun DD σ H ⟨Hb, ok, k, _⟩ => ?_
  refine h.go ok (Grow.refl _ _ _) (Like.refl _) fun vs ds Hb2 H2 ρ' ok' g' _ l' dv ⟨d1, d2, e, p⟩ => ?_
  subst e
  cases dv with
  | cons h1 dv =>
    cases dv with
    | cons h2 dv =>
      cases dv
      refine ⟨_, _, rfl, k _ _ Hb2 H2 ((Fin.like ok' g' l').trans (((FinG.set (ts := [i, j]) ok' h1 (by simp)).trans (FinG.set (ok'.set h1) h2 (by simp))).fin fun m hm z => ?_)) p⟩
      rcases List.mem_cons.mp z with z | z
      · exact hi (z ▸ hm)
      · exact hj (List.mem_singleton.mp z ▸ hm)
/-- x += e, by the operator on data -/
def IpD (X : Cx) (op : Operator) (g : G2) : Prop := ∃ r : TIp, PIp X op r ∧ ∀ Hb H x y dx dy (P : PyData → Prop) (Q : VK), Da X.K Hb x dx → Da X.K Hb y dy → Sub Hb H → g dx dy P → Ret X.K Hb H P Q → r x y H Q
theorem sw_aug {x : Str} {pos' : Pos} {op : Operator} {e : Expr} {g : G2} {dx : PyData} (i : Nat) (hp : ∀ ti, PIp X op ti → PS X (.AugAssign (.Name x pos') op e pos) (tAug i (tAny X e) ti)) (ho : IpD X op g) (hi : i ∉ pr) (hx : ρ[i]? = some (.pd dx))
    (h : EW X e ρ fun dy ρ' => g dx dy fun d => D.nx (ρ'.set i (.pd d))) : SW X pr (.AugAssign (.Name x pos') op e pos) ρ D := by
  obtain ⟨r, o, q⟩ := ho
  refine SW.by (hp r o) fun DD σ H ⟨Hb, ok, k, _⟩ => ?_
  obtain ⟨v, e1, e2⟩ := ok.pd hx
  refine ⟨v, e1, h.go ok (Grow.refl _ _ _) (Like.refl _) fun w dw Hb2 H2 ρ' ok' g' s' l' dv p => ?_⟩
  refine q Hb2 H2 v w dx dw _ _ (e2.mono (same_rd s')) dv ok'.sub p fun z dz Hb3 H3 s3 g3 d3 p3 => ?_
  have ok3 := ok'.grow g3 s3
  exact k _ _ Hb3 H3 ((Fin.like ok3 (g'.trans0 g3) l').trans ((FinG.set (ts := [i]) ok3 d3 List.mem_cons_self).fin fun j hj z => hi (by simpa using (List.mem_singleton.mp z) ▸ hj))) p3
/-- an own object, from now on data that nobody changes -/
theorem freeze {sts : List Stmt} (i : Nat) {o : OD} (e : ρ[i]? = some (.ow o)) (h : SsW X pr sts (ρ.set i (.pd o.data)) D) : SsW X pr sts ρ D := by
  refine SsW.by h fun DD σ H ⟨Hb, ok, k1, k2, k3, k4⟩ => ?_
  obtain ⟨p, u, s1, s2, s3, s4⟩ := ok.own e
  have hl := (List.getElem?_eq_some_iff.mp e).1
  have sub : ∀ (j : Nat) (o' : OD), (ρ.set i (.pd o.data))[j]? = some (.ow o') → i ≠ j ∧ ρ[j]? = some (.ow o') := fun j o' q => by
    have n : i ≠ j := by
      rintro rfl
      rw [List.getElem?_set_self hl] at q
      cases q
    rw [List.getElem?_set_ne n] at q
    exact ⟨n, q⟩
  have ok2 : Ok X.K σ (upd Hb p u) H (ρ.set i (.pd o.data)) := by
    refine ⟨by rw [List.length_set]; exact ok.len, fun a x e => ?_, fun j s q => ?_, fun j k o1 o2 r a b => ok.ap j k o1 o2 r (sub j o1 a).2 (sub k o2 b).2⟩
    · by_cases z : a = p
      · subst z
        rw [upd_same] at e
        cases e
        exact .inl s3
      · rw [upd_ne z] at e
        exact ok.sub a x e
    · have m := same_rd (same_new (o := u) s2)
      by_cases n : i = j
      · subst n
        rw [List.getElem?_set_self hl] at q
        cases q
        exact ⟨_, s1, s4.da s2⟩
      · rw [List.getElem?_set_ne n] at q
        have z := ok.sl j s q
        cases s with
        | un => trivial
        | pd d =>
          obtain ⟨v, e1, e2⟩ := z
          exact ⟨v, e1, e2.mono m⟩
        | ow o' =>
          obtain ⟨r, x, e1, e2, e3, e4⟩ := z
          refine ⟨r, x, e1, ?_, e3, e4.mono m⟩
          rw [upd_ne]
          · exact e2
          · rintro rfl
            exact n (ok.ap i j o o' r e q s1 e1)
  have back : ∀ {σ' : L2.St} {ρ' : DEnv} {Hb2 H2 : Hp}, Fin X.K pr σ (ρ.set i (.pd o.data)) (upd Hb p u) H σ' ρ' Hb2 H2 → Fin X.K pr σ ρ Hb H σ' ρ' Hb2 H2 := fun {σ' ρ' Hb2 H2} f => by
    have ow : ∀ q, Owned σ (ρ.set i (.pd o.data)) q → Owned σ ρ q := fun q ⟨j, o', a, b⟩ => ⟨j, o', (sub j o' a).2, b⟩
    refine ⟨f.ok, ⟨(same_new s2).trans f.gr.per, fun a x ea n => f.gr.keep a x ea fun z => n (ow a z), fun a n ea ha => ?_, f.gr.there⟩, fun q z => (f.ow q z).imp (ow q) id, f.st⟩
    refine f.gr.hid a (fun z => n (ow a z)) ?_ ha
    rw [upd_ne]
    · exact ea
    · rintro rfl
      exact n ⟨i, o, e, s1⟩
  exact ⟨_, ok2, fun σ' ρ' Hb2 H2 f => k1 σ' ρ' Hb2 H2 (back f), fun v d σ' ρ' Hb2 H2 f => k2 v d σ' ρ' Hb2 H2 (back f), fun σ' ρ' Hb2 H2 f => k3 σ' ρ' Hb2 H2 (back f), fun σ' ρ' Hb2 H2 f => k4 σ' ρ' Hb2 H2 (back f)⟩
end
end DL

/-! The data layer: operators, subscripts, slices, built-ins by data. -/
namespace DL
open PySem PySem.Spec PyProof.Rows L2

/-! ### data as the library reads it -/
section
variable {X : Cx} {pins : List (Addr × Obj)} {σ : L2.St} {H : Hp} {s : Shared}
theorem kv_key {k : Key} {v : Value} (h : keyIs k v = true) {h' : Heap} : ∃ as, Reads h' v (keyD k) as := by
  rcases keyIs_shape h with ⟨i, t, rfl, rfl⟩ | ⟨x, t, rfl, rfl⟩
  · exact ⟨_, Reads.int i t⟩
  · exact ⟨_, Reads.str x t⟩
mutual
theorem Da.dp {K : PySem.W.Frag} : ∀ (d : PyData) (v : V), d.canLay0 = true → Da K H v d → Dp K H v d
  | .none, _, _, h => by
    cases h
    exact .non
  | .bool b, _, _, h => by
    cases h
    exact .bl b
  | .int i, _, _, h => by
    cases h
    exact .int i
  | .str x, _, _, h => by
    cases h
    exact .str x
  | .list ds, _, c, h => by
    cases h with
    | lst hs ha => exact .lst hs.sq (DaAll.dp ds _ (by simpa [PyData.canLay0] using c) ha)
  | .tuple ds, _, c, h => by
    cases h with
    | tup hs ha => exact .tup hs (DaAll.dp ds _ (by simpa [PyData.canLay0] using c) ha)
  | .dict _, _, c, _ => by simp [PyData.canLay0] at c
theorem DaAll.dp {K : PySem.W.Frag} : ∀ (ds : List PyData) (vs : List V), PyData.canLayAll0 ds = true → DaAll K H vs ds → DpAll K H vs ds
  | [], _, _, h => by
    cases h
    exact .nil
  | d :: ds, _, c, h => by
    have c' : d.canLay0 = true ∧ PyData.canLayAll0 ds = true := by simpa [PyData.canLayAll0] using c
    cases h with
    | cons h1 h2 => exact .cons (Da.dp d _ c'.1 h1) (DaAll.dp ds _ c'.2 h2)
end
end
theorem line_eq : sizeLine = 16777216 := sizeLine_eq

/-! ### operators -/
def AddW : G2
  | .int i, .int j, P => P (.int (i + j))
  | .str s, .str t, P => s.length + t.length ≤ 16777216 ∧ P (.str (s ++ t))
  | .list xs, .list ys, P => xs.length + ys.length ≤ 16777216 ∧ P (.list (xs ++ ys))
  | .tuple xs, .tuple ys, P => xs.length + ys.length ≤ 16777216 ∧ P (.tuple (xs ++ ys))
  | _, _, _ => False
def SubW : G2
  | .int i, .int j, P => P (.int (i - j))
  | _, _, _ => False
def MulW : G2
  | .int i, .int j, P => CMul i j ∧ P (.int (i * j))
  | _, _, _ => False
def FdivW : G2
  | .int i, .int j, P => (0 < j ∧ j < 1073741824) ∧ P (.int (i / j))
  | _, _, _ => False
def ModW : G2
  | .int i, .int j, P => 0 < j ∧ P (.int (i % j))
  | _, _, _ => False
def PowW : G2
  | .int i, .int j, P => (0 ≤ j ∧ j ≤ 1000000 ∧ i.natAbs < 2 ^ 64) ∧ P (.int (i ^ j.toNat))
  | _, _, _ => False
def CmpW (f : Int → Int → Bool) : G2
  | .int i, .int j, P => P (.bool (f i j))
  | _, _, _ => False
abbrev LtW : G2 := CmpW fun i j => decide (i < j)
abbrev LeW : G2 := CmpW fun i j => decide (i ≤ j)
abbrev GtW : G2 := CmpW fun i j => decide (j < i)
abbrev GeW : G2 := CmpW fun i j => decide (j ≤ i)
def EqW : G2
  | .int i, .int j, P => P (.bool (decide (i = j)))
  | .str i, .str j, P => P (.bool (decide (i = j)))
  | x, y, P => x.canLay0 = true ∧ y.canLay0 = true ∧ min x.depth y.depth ≤ 64 ∧ P (.bool (PyData.eqv x y))
def NeW : G2
  | .int i, .int j, P => P (.bool (!decide (i = j)))
  | .str i, .str j, P => P (.bool (!decide (i = j)))
  | x, y, P => x.canLay0 = true ∧ y.canLay0 = true ∧ min x.depth y.depth ≤ 64 ∧ P (.bool (!PyData.eqv x y))
def isN : PyData → Bool
  | .none => true
  | _ => false
def isBl (b : Bool) : PyData → Bool
  | .bool c => c == b
  | _ => false
def IsW : G2
  | x, .none, P => P (.bool (isN x))
  | x, .bool b, P => P (.bool (isBl b x))
  | _, _, _ => False
def IsNotW : G2
  | x, .none, P => P (.bool (!isN x))
  | x, .bool b, P => P (.bool (!isBl b x))
  | _, _, _ => False
/-- x in s: one sign in a text; a text in a text; an item of a list, a tuple -/
def inD (x : PyData) (xs : List PyData) : Bool := xs.any fun z => PyData.eqv z x
def InW : G2
  | .str x, .str s, P => P (.bool (!(Builtin.Str.occurrences s x 0 s.length 1).isEmpty))
  | x, .list xs, P => x.canLay0 = true ∧ PyData.canLayAll0 xs = true ∧ x.depth ≤ 64 ∧ P (.bool (inD x xs))
  | x, .tuple xs, P => x.canLay0 = true ∧ PyData.canLayAll0 xs = true ∧ x.depth ≤ 64 ∧ P (.bool (inD x xs))
  | _, _, _ => False
def NotInW : G2
  | .str x, .str s, P => P (.bool (!(!(Builtin.Str.occurrences s x 0 s.length 1).isEmpty)))
  | x, .list xs, P => x.canLay0 = true ∧ PyData.canLayAll0 xs = true ∧ x.depth ≤ 64 ∧ P (.bool (!inD x xs))
  | x, .tuple xs, P => x.canLay0 = true ∧ PyData.canLayAll0 xs = true ∧ x.depth ≤ 64 ∧ P (.bool (!inD x xs))
  | _, _, _ => False
section
variable {X : Cx}
/-- two ints -/
theorem opD_I {f : Value → Value → Sem Value} {C : Int → Int → Prop} {g : Int → Int → V} {gd : Int → Int → PyData} {w : G2} (ho : OpR X f (rI C g)) (hg : ∀ i j Hb, Da X.K Hb (g i j) (gd i j)) (hw : ∀ x y P, w x y P → ∃ i j, x = .int i ∧ y = .int j ∧ C i j ∧ P (gd i j)) : OpD X f w := by
  refine ⟨_, ho, fun Hb H x y dx dy P Q a b s g k => ?_⟩
  obtain ⟨i, j, rfl, rfl, c, p⟩ := hw _ _ _ g
  cases a
  cases b
  exact ⟨i, j, rfl, rfl, c, k.val s (hg i j Hb) p⟩
theorem opD_I0 {f : Value → Value → Sem Value} {g : Int → Int → V} {gd : Int → Int → PyData} {w : G2} (ho : OpR X f (rI0 g)) (hg : ∀ i j Hb, Da X.K Hb (g i j) (gd i j)) (hw : ∀ x y P, w x y P → ∃ i j, x = .int i ∧ y = .int j ∧ P (gd i j)) : OpD X f w := by
  refine ⟨_, ho, fun Hb H x y dx dy P Q a b s g k => ?_⟩
  obtain ⟨i, j, rfl, rfl, p⟩ := hw _ _ _ g
  cases a
  cases b
  exact ⟨i, j, rfl, rfl, k.val s (hg i j Hb) p⟩
theorem od_sub : OpD X (binaryOp .Sub) SubW := opD_I0 op_sub (fun _ _ _ => .int _) fun x y P h => by
  cases x <;> cases y <;> first | exact (show False from h).elim | exact ⟨_, _, rfl, rfl, h⟩
theorem od_mul : OpD X (binaryOp .Mult) MulW := opD_I op_mul (fun _ _ _ => .int _) fun x y P h => by
  cases x <;> cases y <;> first | exact (show False from h).elim | exact ⟨_, _, rfl, rfl, h⟩
theorem od_fdiv : OpD X (binaryOp .FloorDiv) FdivW := opD_I op_fdiv (fun _ _ _ => .int _) fun x y P h => by
  cases x <;> cases y <;> first | exact (show False from h).elim | exact ⟨_, _, rfl, rfl, h⟩
theorem od_mod : OpD X (binaryOp .Mod) ModW := opD_I op_mod (fun _ _ _ => .int _) fun x y P h => by
  cases x <;> cases y <;> first | exact (show False from h).elim | exact ⟨_, _, rfl, rfl, h⟩
theorem od_pow : OpD X (binaryOp .Pow) PowW := opD_I op_pow (fun _ _ _ => .int _) fun x y P h => by
  cases x <;> cases y <;> first | exact (show False from h).elim | exact ⟨_, _, rfl, rfl, h⟩
theorem od_lt : OpD X (compareOp .Lt) LtW := opD_I0 op_lt (fun _ _ _ => .bl _) fun x y P h => by
  cases x <;> cases y <;> first | exact (show False from h).elim | exact ⟨_, _, rfl, rfl, h⟩
theorem od_le : OpD X (compareOp .LtE) LeW := opD_I0 op_le (fun _ _ _ => .bl _) fun x y P h => by
  cases x <;> cases y <;> first | exact (show False from h).elim | exact ⟨_, _, rfl, rfl, h⟩
theorem od_gt : OpD X (compareOp .Gt) GtW := opD_I0 op_gt (fun _ _ _ => .bl _) fun x y P h => by
  cases x <;> cases y <;> first | exact (show False from h).elim | exact ⟨_, _, rfl, rfl, h⟩
theorem od_ge : OpD X (compareOp .GtE) GeW := opD_I0 op_ge (fun _ _ _ => .bl _) fun x y P h => by
  cases x <;> cases y <;> first | exact (show False from h).elim | exact ⟨_, _, rfl, rfl, h⟩
/-- list + list, of lists that are read -/
def rCatR (K : PySem.W.Frag) : R2 := fun x y H Q => ∃ l b xs zs, x = .ref l ∧ y = .ref b ∧ RlK K H l xs ∧ RlK K H b zs ∧ xs.length + zs.length ≤ sizeLine ∧ ∀ p, H p = none → Q (.ref p) (upd H p (.lst (xs ++ zs)))
theorem RlK.at {pins : List (Addr × Obj)} {σ : L2.St} {H : Hp} {s : Shared} {l : Addr} {xs : List V} (I : Inv X pins σ H s) (h : RlK X.K H l xs) : xs.length ≤ sizeLine ∧ ∃ (its : List Value) (n : Nat), Vals xs its ∧ s.heap.get? l = some { cls := .type "list", data := .seq its.toArray n } := by
  rcases h with h | ⟨its, h1, h2, h3⟩
  · exact h.ok I.hok
  · exact ⟨h2, its, 0, h3, I.kIn l _ h1⟩
theorem op_catR : OpR X (binaryOp .Add) (rCatR X.K) := by
  intro pins s σ H x y v u Q I rx ry h
  obtain ⟨l, b, xs, zs, rfl, rfl, hH, hB, hz, q⟩ := h
  cases rx
  cases ry
  obtain ⟨z, its, n, r, e⟩ := hH.at I
  obtain ⟨z2, its2, n2, r2, e2⟩ := hB.at I
  have hl := r.length
  have hl2 := r2.length
  refine PySem.P.add_list e e2 ?_ (by rw [List.size_toArray, List.size_toArray]; omega)
  have ea : its.toArray ++ its2.toArray = (its ++ its2).toArray := by simp
  rw [ea]
  exact ⟨.ref _, _, I.lnew (t' := s.toks) (r.append r2) (by rw [List.length_append]; omega), rfl, q _ I.fresh⟩
theorem od_add : OpD X (binaryOp .Add) AddW := by
  have h1 : OpD X (binaryOp .Add) fun x y P => ∃ i j, x = .int i ∧ y = .int j ∧ P (.int (i + j)) := opD_I0 op_add (fun _ _ _ => .int _) fun _ _ _ h => h
  have h2 : OpD X (binaryOp .Add) fun x y P => ∃ i j, x = .str i ∧ y = .str j ∧ i.length + j.length ≤ 16777216 ∧ P (.str (i ++ j)) := by
    refine ⟨_, op_add_str, fun Hb H x y dx dy P Q a b s g k => ?_⟩
    obtain ⟨i, j, rfl, rfl, c, p⟩ := g
    cases a
    cases b
    exact ⟨i, j, rfl, rfl, by rw [line_eq]; exact c, k.val s (.str _) p⟩
  have h3 : OpD X (binaryOp .Add) fun x y P => ∃ xs ys, x = .list xs ∧ y = .list ys ∧ xs.length + ys.length ≤ 16777216 ∧ P (.list (xs ++ ys)) := by
    refine ⟨_, op_catR, fun Hb H x y dx dy P Q a b s g k => ?_⟩
    obtain ⟨i, j, rfl, rfl, c, p⟩ := g
    cases a with
    | lst ha a2 =>
      cases b with
      | lst hb b2 => exact ⟨_, _, _, _, rfl, rfl, ha.mono s.rd, hb.mono s.rd, by rw [line_eq, a2.length, b2.length]; exact c, fun q hq => k.lst s hq (a2.append b2) p⟩
  have h4 : OpD X (binaryOp .Add) fun x y P => ∃ xs ys, x = .tuple xs ∧ y = .tuple ys ∧ xs.length + ys.length ≤ 16777216 ∧ P (.tuple (xs ++ ys)) := by
    refine ⟨_, op_catA, fun Hb H x y dx dy P Q a b s g k => ?_⟩
    obtain ⟨i, j, rfl, rfl, c, p⟩ := g
    cases a with
    | tup ha a2 =>
      cases b with
      | tup hb b2 =>
        refine ⟨_, _, _, _, rfl, rfl, s.rd.t ha, s.rd.t hb, by rw [line_eq, a2.length, b2.length]; exact c, ?_, ?_, ?_⟩
        · intro e
          subst e
          cases a2
          exact k.val s (.tup hb b2) p
        · intro _ e
          subst e
          cases b2
          rw [List.append_nil] at p
          exact k.val s (.tup ha a2) p
        · intro _ _ q hq
          exact k.tup s hq (a2.append b2) p
  refine (((h1.or h2).or h3).or h4).imp fun x y P h => ?_
  cases x <;> cases y <;> first
    | exact (show False from h).elim
    | exact .inl (.inl (.inl ⟨_, _, rfl, rfl, h⟩))
    | exact .inl (.inl (.inr ⟨_, _, rfl, rfl, h⟩))
    | exact .inl (.inr ⟨_, _, rfl, rfl, h⟩)
    | exact .inr ⟨_, _, rfl, rfl, h⟩
def rEqZ (K : PySem.W.Frag) (neg : Bool) : R2 := fun x y H Q => ∃ d e, Dp K H x d ∧ Dp K H y e ∧ d.canLay0 = true ∧ e.canLay0 = true ∧ min d.depth e.depth ≤ 64 ∧ Q (.bl (if neg then !PyData.eqv d e else PyData.eqv d e)) H
theorem op_eqZ (hu : X.A.units + 64 < cLine) : OpR X (compareOp .Eq) (rEqZ X.K false) := by
  intro pins s σ H x y v u Q I rx ry h
  obtain ⟨d, e, hd, he, c1, c2, hz, q⟩ := h
  obtain ⟨as, r1⟩ := Dp.reads I d x v hd rx
  obtain ⟨bs, r2⟩ := Dp.reads I e y u he ry
  exact SeqAt.compareEq_reads r1 r2 c1 c2 (by omega) ⟨.bl _, H, I, rfl, q⟩
theorem op_neZ (hu : X.A.units + 64 < cLine) : OpR X (compareOp .NotEq) (rEqZ X.K true) := by
  intro pins s σ H x y v u Q I rx ry h
  obtain ⟨d, e, hd, he, c1, c2, hz, q⟩ := h
  obtain ⟨as, r1⟩ := Dp.reads I d x v hd rx
  obtain ⟨bs, r2⟩ := Dp.reads I e y u he ry
  exact SeqAt.compareNe_reads r1 r2 c1 c2 (by omega) ⟨.bl _, H, I, rfl, q⟩
theorem od_eq (hu : X.A.units + 65 < cLine) : OpD X (compareOp .Eq) EqW := by
  have h1 : OpD X (compareOp .Eq) fun x y P => ∃ i j, x = .int i ∧ y = .int j ∧ P (.bool (decide (i = j))) := by
    refine ⟨_, op_eq, fun Hb H x y dx dy P Q a b s g k => ?_⟩
    obtain ⟨i, j, rfl, rfl, p⟩ := g
    cases a
    cases b
    refine ⟨rfl, ?_⟩
    rw [show decide (V.int i = V.int j) = decide (i = j) by rw [Bool.eq_iff_iff]; simp]
    exact k.val s (.bl _) p
  have h2 : OpD X (compareOp .Eq) fun x y P => ∃ i j, x = .str i ∧ y = .str j ∧ P (.bool (decide (i = j))) := by
    refine ⟨_, op_eq, fun Hb H x y dx dy P Q a b s g k => ?_⟩
    obtain ⟨i, j, rfl, rfl, p⟩ := g
    cases a
    cases b
    refine ⟨rfl, ?_⟩
    rw [show decide (V.str i = V.str j) = decide (i = j) by rw [Bool.eq_iff_iff]; simp]
    exact k.val s (.bl _) p
  have h3 : OpD X (compareOp .Eq) fun x y P => x.canLay0 = true ∧ y.canLay0 = true ∧ min x.depth y.depth ≤ 64 ∧ P (.bool (PyData.eqv x y)) :=
    ⟨_, op_eqZ (by omega), fun Hb H x y dx dy P Q a b s ⟨c1, c2, hz, p⟩ k => ⟨dx, dy, (a.mono s.rd).dp _ _ c1, (b.mono s.rd).dp _ _ c2, c1, c2, hz, k.val s (.bl _) p⟩⟩
  refine ((h1.or h2).or h3).imp fun x y P h => ?_
  cases x <;> cases y <;> first | exact .inr h | exact .inl (.inl ⟨_, _, rfl, rfl, h⟩) | exact .inl (.inr ⟨_, _, rfl, rfl, h⟩)
theorem od_ne (hu : X.A.units + 65 < cLine) : OpD X (compareOp .NotEq) NeW := by
  have h1 : OpD X (compareOp .NotEq) fun x y P => ∃ i j, x = .int i ∧ y = .int j ∧ P (.bool (!decide (i = j))) := by
    refine ⟨_, op_ne, fun Hb H x y dx dy P Q a b s g k => ?_⟩
    obtain ⟨i, j, rfl, rfl, p⟩ := g
    cases a
    cases b
    refine ⟨rfl, ?_⟩
    rw [show decide (V.int i = V.int j) = decide (i = j) by rw [Bool.eq_iff_iff]; simp]
    exact k.val s (.bl _) p
  have h2 : OpD X (compareOp .NotEq) fun x y P => ∃ i j, x = .str i ∧ y = .str j ∧ P (.bool (!decide (i = j))) := by
    refine ⟨_, op_ne, fun Hb H x y dx dy P Q a b s g k => ?_⟩
    obtain ⟨i, j, rfl, rfl, p⟩ := g
    cases a
    cases b
    refine ⟨rfl, ?_⟩
    rw [show decide (V.str i = V.str j) = decide (i = j) by rw [Bool.eq_iff_iff]; simp]
    exact k.val s (.bl _) p
  have h3 : OpD X (compareOp .NotEq) fun x y P => x.canLay0 = true ∧ y.canLay0 = true ∧ min x.depth y.depth ≤ 64 ∧ P (.bool (!PyData.eqv x y)) :=
    ⟨_, op_neZ (by omega), fun Hb H x y dx dy P Q a b s ⟨c1, c2, hz, p⟩ k => ⟨dx, dy, (a.mono s.rd).dp _ _ c1, (b.mono s.rd).dp _ _ c2, c1, c2, hz, k.val s (.bl _) p⟩⟩
  refine ((h1.or h2).or h3).imp fun x y P h => ?_
  cases x <;> cases y <;> first | exact .inr h | exact .inl (.inl ⟨_, _, rfl, rfl, h⟩) | exact .inl (.inr ⟨_, _, rfl, rfl, h⟩)
/-- is None, is True, is False -/
def rIsZ (neg : Bool) : R2 := fun x y H Q => (y = .non ∧ Q (.bl (if neg then !decide (x = .non) else decide (x = .non))) H) ∨ ∃ b, y = .bl b ∧ Q (.bl (if neg then !decide (x = .bl b) else decide (x = .bl b))) H
theorem beq_relN {x : V} {v : Value} (r : RelV x v) : (v == Value.none) = decide (x = .non) := r.none_iff
theorem beq_relB {x : V} {v : Value} {b : Bool} (r : RelV x v) : (v == Value.bool b) = decide (x = .bl b) := by
  cases x with
  | non =>
    cases r
    rfl
  | bl c =>
    cases r
    cases b <;> cases c <;> rfl
  | int _ =>
    obtain ⟨t, rfl⟩ := r
    rfl
  | str _ =>
    obtain ⟨t, rfl⟩ := r
    rfl
  | byt _ =>
    obtain ⟨t, rfl⟩ := r
    rfl
  | flt _ =>
    obtain ⟨t, rfl⟩ := r
    rfl
  | ref _ =>
    cases r
    rfl
  | ty _ =>
    cases r
    rfl
theorem plainB {x : V} {v : Value} {b : Bool} (r : RelV x v) : plainIs v (.bool b) = true := by
  cases x with
  | non | bl _ | ref _ | ty _ =>
    cases r
    rfl
  | int _ | str _ | byt _ | flt _ =>
    obtain ⟨t, rfl⟩ := r
    rfl
theorem op_isZ : OpR X (compareOp .Is) (rIsZ false) := by
  intro pins s σ H x y v u Q I rx ry h
  rcases h with ⟨rfl, q⟩ | ⟨b, rfl, q⟩
  · cases ry
    exact is_none_gen ⟨.bl _, H, I, by rw [beq_relN rx]; rfl, q⟩
  · cases ry
    exact wpAny_is_plain (plainB rx) ⟨.bl _, H, I, by rw [beq_relB rx]; rfl, q⟩
theorem op_isNotZ : OpR X (compareOp .IsNot) (rIsZ true) := by
  intro pins s σ H x y v u Q I rx ry h
  rcases h with ⟨rfl, q⟩ | ⟨b, rfl, q⟩
  · cases ry
    exact isnot_none_gen ⟨.bl _, H, I, by rw [beq_relN rx]; rfl, q⟩
  · cases ry
    exact wpAny_isNot_plain (plainB rx) ⟨.bl _, H, I, by rw [beq_relB rx]; rfl, q⟩
theorem isN_da {K : PySem.W.Frag} {H : Hp} {x : V} {d : PyData} (h : Da K H x d) : decide (x = .non) = isN d := by
  cases h <;> first | rfl | simp [isN]
theorem isBl_da {K : PySem.W.Frag} {H : Hp} {x : V} {d : PyData} {b : Bool} (h : Da K H x d) : decide (x = .bl b) = isBl b d := by
  cases h <;> first | rfl | (simp [isBl]; done) | skip
  rename_i c
  cases b <;> cases c <;> rfl
theorem od_is : OpD X (compareOp .Is) IsW := by
  refine ⟨_, op_isZ, fun Hb H x y dx dy P Q a b s g k => ?_⟩
  cases b with
  | non => exact .inl ⟨rfl, k.val s (.bl _) (by rw [if_neg Bool.false_ne_true, isN_da a]; exact g)⟩
  | bl c => exact .inr ⟨c, rfl, k.val s (.bl _) (by rw [if_neg Bool.false_ne_true, isBl_da a]; exact g)⟩
  | _ => exact (show False from g).elim
theorem od_isNot : OpD X (compareOp .IsNot) IsNotW := by
  refine ⟨_, op_isNotZ, fun Hb H x y dx dy P Q a b s g k => ?_⟩
  cases b with
  | non => exact .inl ⟨rfl, k.val s (.bl _) (by rw [if_pos rfl, isN_da a]; exact g)⟩
  | bl c => exact .inr ⟨c, rfl, k.val s (.bl _) (by rw [if_pos rfl, isBl_da a]; exact g)⟩
  | _ => exact (show False from g).elim
end
end DL

/-! The data layer: in, subscripts, slices, built-ins. -/
namespace DL
open PySem PySem.Spec PyProof.Rows L2
section
variable {X : Cx}
def rInZ (K : PySem.W.Frag) (neg : Bool) : R2 := fun x y H Q => ∃ d ds, Dp K H x d ∧ (Dp K H y (.list ds) ∨ Dp K H y (.tuple ds)) ∧ d.canLay0 = true ∧ PyData.canLayAll0 ds = true ∧ d.depth ≤ 64 ∧ Q (.bl (if neg then !inD d ds else inD d ds)) H
theorem room_in {A : Around} {d : PyData} {n : Nat} (h : d.depth ≤ 64) (hu : A.units + 65 < cLine) : A.units + 1 + min n d.depth < cLine := by
  have := Nat.min_le_right n d.depth
  omega
theorem op_inZ (hu : X.A.units + 65 < cLine) : OpR X (compareOp .In) (rInZ X.K false) := by
  intro pins s σ H x y v u Q I rx ry h
  obtain ⟨d, ds, hd, he, c1, c2, hz, q⟩ := h
  obtain ⟨as, r1⟩ := Dp.reads I d x v hd rx
  rcases he with he | he
  · obtain ⟨bs, r2⟩ := Dp.reads I _ y u he ry
    exact SeqAt.in_list_reads r2 r1 c2 c1 (room_in hz hu) ⟨.bl _, H, I, rfl, q⟩
  · obtain ⟨bs, r2⟩ := Dp.reads I _ y u he ry
    exact SeqAt.in_tuple_reads r2 r1 c2 c1 (room_in hz hu) ⟨.bl _, H, I, rfl, q⟩
theorem op_notInZ (hu : X.A.units + 65 < cLine) : OpR X (compareOp .NotIn) (rInZ X.K true) := by
  intro pins s σ H x y v u Q I rx ry h
  obtain ⟨d, ds, hd, he, c1, c2, hz, q⟩ := h
  obtain ⟨as, r1⟩ := Dp.reads I d x v hd rx
  rcases he with he | he
  · obtain ⟨bs, r2⟩ := Dp.reads I _ y u he ry
    exact SeqAt.notIn_list_reads r2 r1 c2 c1 (room_in hz hu) ⟨.bl _, H, I, rfl, q⟩
  · obtain ⟨bs, r2⟩ := Dp.reads I _ y u he ry
    exact SeqAt.notIn_tuple_reads r2 r1 c2 c1 (room_in hz hu) ⟨.bl _, H, I, rfl, q⟩
theorem od_in (hu : X.A.units + 65 < cLine) : OpD X (compareOp .In) InW := by
  have h1 : OpD X (compareOp .In) fun x y P => ∃ i j, x = .str i ∧ y = .str j ∧ P (.bool (!(Builtin.Str.occurrences j i 0 j.length 1).isEmpty)) := by
    refine ⟨_, op_in_str, fun Hb H x y dx dy P Q a b s g k => ?_⟩
    obtain ⟨i, j, rfl, rfl, p⟩ := g
    cases a
    cases b
    exact ⟨i, j, rfl, rfl, k.val s (.bl _) p⟩
  have h2 : OpD X (compareOp .In) fun x y P => ∃ ds, (y = .list ds ∨ y = .tuple ds) ∧ x.canLay0 = true ∧ PyData.canLayAll0 ds = true ∧ x.depth ≤ 64 ∧ P (.bool (inD x ds)) := by
    refine ⟨_, op_inZ hu, fun Hb H x y dx dy P Q a b s g k => ?_⟩
    obtain ⟨ds, e, c1, c2, hz, p⟩ := g
    refine ⟨dx, ds, (a.mono s.rd).dp _ _ c1, ?_, c1, c2, hz, k.val s (.bl _) p⟩
    rcases e with rfl | rfl
    · exact .inl ((b.mono s.rd).dp _ _ (by simpa [PyData.canLay0] using c2))
    · exact .inr ((b.mono s.rd).dp _ _ (by simpa [PyData.canLay0] using c2))
  refine (h1.or h2).imp fun x y P h => ?_
  cases y with
  | list ys => exact .inr ⟨ys, .inl rfl, by cases x <;> exact h⟩
  | tuple ys => exact .inr ⟨ys, .inr rfl, by cases x <;> exact h⟩
  | str z => cases x <;> first | exact (show False from h).elim | exact .inl ⟨_, _, rfl, rfl, h⟩
  | _ => cases x <;> exact (show False from h).elim
theorem od_notIn (hu : X.A.units + 65 < cLine) : OpD X (compareOp .NotIn) NotInW := by
  have h1 : OpD X (compareOp .NotIn) fun x y P => ∃ i j, x = .str i ∧ y = .str j ∧ P (.bool (!(!(Builtin.Str.occurrences j i 0 j.length 1).isEmpty))) := by
    refine ⟨_, op_notIn_str, fun Hb H x y dx dy P Q a b s g k => ?_⟩
    obtain ⟨i, j, rfl, rfl, p⟩ := g
    cases a
    cases b
    exact ⟨i, j, rfl, rfl, k.val s (.bl _) p⟩
  have h2 : OpD X (compareOp .NotIn) fun x y P => ∃ ds, (y = .list ds ∨ y = .tuple ds) ∧ x.canLay0 = true ∧ PyData.canLayAll0 ds = true ∧ x.depth ≤ 64 ∧ P (.bool (!inD x ds)) := by
    refine ⟨_, op_notInZ hu, fun Hb H x y dx dy P Q a b s g k => ?_⟩
    obtain ⟨ds, e, c1, c2, hz, p⟩ := g
    refine ⟨dx, ds, (a.mono s.rd).dp _ _ c1, ?_, c1, c2, hz, k.val s (.bl _) p⟩
    rcases e with rfl | rfl
    · exact .inl ((b.mono s.rd).dp _ _ (by simpa [PyData.canLay0] using c2))
    · exact .inr ((b.mono s.rd).dp _ _ (by simpa [PyData.canLay0] using c2))
  refine (h1.or h2).imp fun x y P h => ?_
  cases y with
  | list ys => exact .inr ⟨ys, .inl rfl, by cases x <;> exact h⟩
  | tuple ys => exact .inr ⟨ys, .inr rfl, by cases x <;> exact h⟩
  | str z => cases x <;> first | exact (show False from h).elim | exact .inl ⟨_, _, rfl, rfl, h⟩
  | _ => cases x <;> exact (show False from h).elim

/-! ### subscripts -/
def IxW : G2
  | .list xs, .int i, P => ∃ d, atI xs i = some d ∧ P d
  | .tuple xs, .int i, P => ∃ d, atI xs i = some d ∧ P d
  | .str s, .int i, P => s.length ≤ 16777216 ∧ ∃ c, atI s.cps.toList i = some c ∧ P (.str ⟨#[c]⟩)
  | _, _, _ => False
theorem atI_da {K : PySem.W.Frag} {Hb : Hp} {vs : List V} {ds : List PyData} {i : Int} {d : PyData} (h : DaAll K Hb vs ds) (e : atI ds i = some d) : ∃ v, atI vs i = some v ∧ Da K Hb v d := by
  unfold atI at e ⊢
  rw [h.length]
  cases q : ixN ds.length i with
  | none =>
    rw [q] at e
    cases e
  | some j =>
    rw [q] at e
    exact h.getD (show ds[j]? = some d from e)
theorem ew_ix {ρ : DEnv} {a b : Expr} {pos : Pos} {Post : PyData → DEnv → Prop} (h : EW X a ρ fun x ρ1 => EW X b ρ1 fun y ρ2 => IxW x y fun d => Post d ρ2) (hs : PlainIx b) : EW X (.Subscript a b pos) ρ Post := by
  refine EW.by (pe_ix ((ix_list.or ix_tup).or ix_str) (pe_any a) (pe_any b) hs) fun σ H Q ⟨Hb, ok, k⟩ => ?_
  refine h.go ok (Grow.refl _ _ _) (Like.refl _) fun v dv Hb1 H1 ρ1 ok1 g1 _ l1 d1 p1 => ?_
  refine p1.go ok1 g1 l1 fun w dw Hb2 H2 ρ2 ok2 g2 s2 l2 d2 p2 => ?_
  have r := fin0 k ok2 g2 l2
  have e1 := d1.mono (same_rd s2)
  cases d2 with
  | int i =>
    cases e1 with
    | lst hs ha =>
      obtain ⟨d, e, p⟩ := p2
      obtain ⟨v, e2, dv⟩ := atI_da ha e
      exact .inl (.inl ⟨_, _, i, v, rfl, rfl, (hs.mono ok2.sub.rd).sq, e2, r.val ok2.sub dv p⟩)
    | tup hs ha =>
      obtain ⟨d, e, p⟩ := p2
      obtain ⟨v, e2, dv⟩ := atI_da ha e
      exact .inl (.inr ⟨_, _, i, v, rfl, rfl, ok2.sub.rd.t hs, e2, r.val ok2.sub dv p⟩)
    | str z =>
      obtain ⟨hz, c, e, p⟩ := p2
      exact .inr ⟨z, i, c, rfl, rfl, by rw [line_eq]; exact hz, e, r.val ok2.sub (.str _) p⟩
    | _ => exact (show False from p2).elim
  | _ => cases e1 <;> exact (show False from p2).elim
/-- an item of an own list -/
theorem ew_ixO {ρ : DEnv} {x : Str} {px : Pos} {b : Expr} {pos : Pos} {Post : PyData → DEnv → Prop} (i : Nat) {o : OD} (hp : PE X (.Name x px) (tVar i)) (e : ρ[i]? = some (.ow o)) (h : EW X b ρ fun y ρ2 => ∃ ds j d, ρ2[i]? = some (.ow (.lst ds)) ∧ y = .int j ∧ atI ds j = some d ∧ Post d ρ2) (hs : PlainIx b) : EW X (.Subscript (.Name x px) b pos) ρ Post := by
  refine EW.by (pe_ix ix_list hp (pe_any b) hs) fun σ H Q ⟨Hb, ok, k⟩ => ?_
  obtain ⟨p, u, e1, e2, e3, e4⟩ := ok.own e
  refine ⟨.ref p, e1, h.go ok (Grow.refl _ _ _) (Like.refl _) fun w dw Hb2 H2 ρ2 ok2 g2 s2 l2 d2 ⟨ds, j, d, r1, r2, r3, r4⟩ => ?_⟩
  subst r2
  cases d2
  obtain ⟨p', u', f1, f2, f3, vs, f4, f5⟩ := ok2.own r1
  rw [e1] at f1
  cases f1
  subst f4
  obtain ⟨v, q1, q2⟩ := atI_da f5 r3
  exact ⟨p, vs, j, v, rfl, rfl, .inl (.inl f3), q1, (fin0 k ok2 g2 l2).val ok2.sub q2 r4⟩

/-! ### slices -/
def IsI (d : PyData) (P : Int → Prop) : Prop := ∃ i, d = .int i ∧ P i
def OW (X : Cx) (o : Option Expr) (ρ : DEnv) (P : Option Int → DEnv → Prop) : Prop := match o with
  | none => P none ρ
  | some e => EW X e ρ fun d ρ' => IsI d fun i => P (some i) ρ'
def tAnyO (X : Cx) (o : Option Expr) : TO := match o with
  | none => tNoPart
  | some e => tPart (tAny X e)
theorem po_any (o : Option Expr) : PO X o (tAnyO X o) := match o with
  | none => po_none
  | some e => po_some (pe_any e)
theorem OW.go {o : Option Expr} {P : Option Int → DEnv → Prop} {σ : L2.St} {H : Hp} {Q : Option Int → Hp → Prop} {ρ0 ρ : DEnv} {Hb0 H0 Hb : Hp} (h : OW X o ρ P) (ok : Ok X.K σ Hb H ρ) (g : Grow (Owned σ ρ0) Hb0 H0 Hb H) (lk : Like ρ0 ρ)
    (k : ∀ i Hb2 H2 ρ', Ok X.K σ Hb2 H2 ρ' → Grow (Owned σ ρ0) Hb0 H0 Hb2 H2 → Same Hb Hb2 → Like ρ0 ρ' → P i ρ' → Q i H2) : tAnyO X o σ H Q := by
  cases o with
  | none => exact k none Hb H ρ ok g (Same.refl _) lk h
  | some e =>
    refine EW.go h ok g lk fun v d Hb2 H2 ρ' ok' g' s' l' dv ⟨i, e, p⟩ => ?_
    subst e
    cases dv
    exact ⟨i, rfl, k (some i) Hb2 H2 ρ' ok' g' s' l' p⟩
def cutD {α : Type} (xs : List α) (lo hi : Option Int) : List α := (xs.drop (HT.sIx xs.length 0 lo)).take (HT.sIx xs.length xs.length hi - HT.sIx xs.length 0 lo)
theorem cutD_whole {α : Type} {xs : List α} {lo hi : Option Int} (h : HT.sIx xs.length 0 lo = 0 ∧ HT.sIx xs.length xs.length hi = xs.length) : cutD xs lo hi = xs := by
  unfold cutD
  rw [h.1, h.2, List.drop_zero, Nat.sub_zero, List.take_length]
theorem cutD_da {K : PySem.W.Frag} {Hb : Hp} {vs : List V} {ds : List PyData} (h : DaAll K Hb vs ds) (lo hi : Option Int) : DaAll K Hb (cutV vs lo hi) (cutD ds lo hi) := by
  unfold cutV cutD
  rw [h.length]
  exact (h.drop _).take _
def SlW (x : PyData) (lo hi : Option Int) (P : PyData → Prop) : Prop := match x with
  | .str s => s.length ≤ 16777216 ∧ P (.str (cutS s lo hi))
  | .list xs => P (.list (cutD xs lo hi))
  | .tuple xs => P (.tuple (cutD xs lo hi))
  | _ => False
theorem ew_slice {ρ : DEnv} {a : Expr} {lo hi : Option Expr} {p2 pos : Pos} {Post : PyData → DEnv → Prop} (h : EW X a ρ fun x ρ1 => OW X lo ρ1 fun l ρ2 => OW X hi ρ2 fun u ρ3 => SlW x l u fun d => Post d ρ3) : EW X (.Subscript a (.Slice lo hi none p2) pos) ρ Post := by
  refine EW.by (pe_slice ((sl_list.or sl_tupA).or sl_str) (pe_any a) (po_any lo) (po_any hi)) fun σ H Q ⟨Hb, ok, k⟩ => ?_
  refine h.go ok (Grow.refl _ _ _) (Like.refl _) fun v dv Hb1 H1 ρ1 ok1 g1 _ l1 d1 p1 => ?_
  refine p1.go ok1 g1 l1 fun l Hb2 H2 ρ2 ok2 g2 s2 l2 p2 => ?_
  refine p2.go ok2 g2 l2 fun u Hb3 H3 ρ3 ok3 g3 s3 l3 p3 => ?_
  have r := fin0 k ok3 g3 l3
  have e1 := d1.mono (same_rd (s2.trans s3))
  cases e1 with
  | lst hs ha => exact .inl (.inl ⟨_, _, rfl, (hs.mono ok3.sub.rd).sq, fun p hp => r.lst ok3.sub hp (cutD_da ha l u) p3⟩)
  | tup hs ha =>
    refine .inl (.inr ⟨_, _, rfl, ok3.sub.rd.t hs, fun hw => ?_, fun _ p hp => r.tup ok3.sub hp (cutD_da ha l u) p3⟩)
    rw [ha.length] at hw
    have p3 : Post (.tuple (cutD _ l u)) ρ3 := p3
    rw [cutD_whole hw] at p3
    exact r.val ok3.sub (.tup hs ha) p3
  | str z => exact .inr ⟨z, rfl, by rw [line_eq]; exact p3.1, r.val ok3.sub (.str _) p3.2⟩
  | _ => exact (show False from p3).elim

/-! ### built-ins by name -/
variable {ρ : DEnv} {Post : PyData → DEnv → Prop} {e : Expr} {es : List Expr} {x : Str} {p pos : Pos} {id T : String} {g : GA}
theorem ew_callB (hc : CallD X (.builtin id) g) (hg : Gl X x) (hm : X.mg x = none) (hv : bootBuiltins x = some (.builtin id)) (h : AW X (e :: es) ρ fun ds ρ' => g ds fun d => Post d ρ') (hn : x ≠ "__name__" := by decide) (hdb : (x == ("__debug__" : Str)) = false := by decide)
    (he : starEach (e :: es) X.env = (false, eval e X.env) :: starEach es X.env := by rfl) (hpl : (backTo pos (starEach es X.env)).any (·.1) = false := by rfl) : EW X (.Call (.Name x p) (e :: es) [] pos) ρ Post := by
  obtain ⟨r, o, q⟩ := hc
  refine EW.by (pe_callB o hg hm hv (pa_any (e :: es)) hn hdb he hpl) fun σ H Q ⟨Hb, ok, k⟩ => ?_
  refine h.go ok (Grow.refl _ _ _) (Like.refl _) fun vs ds Hb1 H1 ρ1 ok1 g1 _ l1 d1 p1 => ?_
  exact q Hb1 H1 vs ds _ Q d1 ok1.sub p1 (fin0 k ok1 g1 l1)
theorem ew_callT (hc : CallD X (.type T) g) (hg : Gl X x) (hm : X.mg x = none) (hv : bootBuiltins x = some (.type T)) (h : AW X (e :: es) ρ fun ds ρ' => g ds fun d => Post d ρ') (hn : x ≠ "__name__" := by decide) (hdb : (x == ("__debug__" : Str)) = false := by decide)
    (he : starEach (e :: es) X.env = (false, eval e X.env) :: starEach es X.env := by rfl) (hpl : (backTo pos (starEach es X.env)).any (·.1) = false := by rfl) : EW X (.Call (.Name x p) (e :: es) [] pos) ρ Post := by
  obtain ⟨r, o, q⟩ := hc
  refine EW.by (pe_callTy o hg hm hv (pa_any (e :: es)) hn hdb he hpl) fun σ H Q ⟨Hb, ok, k⟩ => ?_
  refine h.go ok (Grow.refl _ _ _) (Like.refl _) fun vs ds Hb1 H1 ρ1 ok1 g1 _ l1 d1 p1 => ?_
  exact q Hb1 H1 vs ds _ Q d1 ok1.sub p1 (fin0 k ok1 g1 l1)
def LenW : GA
  | [.list xs], P => P (.int xs.length)
  | [.tuple xs], P => P (.int xs.length)
  | [.str s], P => s.length ≤ 16777216 ∧ P (.int s.length)
  | _, _ => False
theorem cd_len : CallD X (.builtin "len") LenW := by
  refine ⟨_, call_len, fun Hb H xs ds P Q a s g k => ?_⟩
  cases a with
  | nil => exact (show False from g).elim
  | cons h1 t =>
    cases t with
    | cons h2 t => cases h1 <;> exact (show False from g).elim
    | nil =>
      cases h1 with
      | lst hs ha => exact ⟨_, _, rfl, .inl ⟨_, (hs.mono s.rd).sq, rfl⟩, k.val s (.int _) (by rw [ha.length]; exact g)⟩
      | tup hs ha => exact ⟨_, _, rfl, .inr ⟨_, s.rd.t hs, rfl⟩, k.val s (.int _) (by rw [ha.length]; exact g)⟩
      | str z => exact ⟨_, _, rfl, ⟨by rw [line_eq]; exact g.1, rfl⟩, k.val s (.int _) g.2⟩
      | _ => exact (show False from g).elim
def IntW : GA
  | [.int i], P => P (.int i)
  | [.bool b], P => P (.int (if b then 1 else 0))
  | [.str s], P => ∃ n, intText? s = some n ∧ s.length ≤ 640 ∧ P (.int n)
  | _, _ => False
theorem cd_int : CallD X (.type "int") IntW := by
  refine ⟨_, call_int1.or call_int_str, fun Hb H xs ds P Q a s g k => ?_⟩
  cases a with
  | nil => exact (show False from g).elim
  | cons h1 t =>
    cases t with
    | cons h2 t => cases h1 <;> exact (show False from g).elim
    | nil =>
      cases h1 with
      | int i => exact .inl (.inl ⟨i, rfl, k.val s (.int _) g⟩)
      | bl b => exact .inl (.inr ⟨b, rfl, k.val s (.int _) g⟩)
      | str z =>
        obtain ⟨n, e, hz, p⟩ := g
        exact .inr ⟨z, n, rfl, e, hz, k.val s (.int _) p⟩
      | _ => exact (show False from g).elim
def StrW : GA
  | [.int i], P => i.natAbs.log2 < 1920 ∧ P (.str (toString i))
  | [.str s], P => P (.str s)
  | _, _ => False
theorem cd_str : CallD X (.type "str") StrW := by
  refine ⟨_, call_str_int.or SkE.call_str_str, fun Hb H xs ds P Q a s g k => ?_⟩
  cases a with
  | nil => exact (show False from g).elim
  | cons h1 t =>
    cases t with
    | cons h2 t => cases h1 <;> exact (show False from g).elim
    | nil =>
      cases h1 with
      | int i => exact .inl ⟨i, rfl, g.1, k.val s (.str _) g.2⟩
      | str z => exact .inr ⟨z, rfl, k.val s (.str _) g⟩
      | _ => exact (show False from g).elim
def ReprW : GA
  | [.int i], P => i.natAbs.log2 < 1920 ∧ P (.str (toString i))
  | [.str s], P => (reprText s).length ≤ 16777216 ∧ P (.str (reprText s))
  | _, _ => False
theorem call_repr_strZ : CallR X (.builtin "repr") (fun xs H Q => ∃ a, xs = [.str a] ∧ (reprText a).length ≤ sizeLine ∧ Q (.str (reprText a)) H) := by
  intro pins s σ H xs us Q I r h
  obtain ⟨a, rfl, hz, q⟩ := h
  obtain ⟨u, rfl, t, rfl⟩ := vals1 r
  exact PySem.P.repr_of_str ⟨.str _, H, I.tok _, ⟨_, rfl⟩, q⟩ hz
theorem cd_repr : CallD X (.builtin "repr") ReprW := by
  refine ⟨_, SkE.call_repr_int.or call_repr_strZ, fun Hb H xs ds P Q a s g k => ?_⟩
  cases a with
  | nil => exact (show False from g).elim
  | cons h1 t =>
    cases t with
    | cons h2 t => cases h1 <;> exact (show False from g).elim
    | nil =>
      cases h1 with
      | int i => exact .inl ⟨i, rfl, g.1, k.val s (.str _) g.2⟩
      | str z => exact .inr ⟨z, rfl, by rw [line_eq]; exact g.1, k.val s (.str _) g.2⟩
      | _ => exact (show False from g).elim
def OrdW : GA
  | [.str s], P => s.length = 1 ∧ P (.int (s.cps.getD 0 0 : Nat))
  | _, _ => False
theorem cd_ord : CallD X (.builtin "ord") OrdW := by
  refine ⟨_, call_ord, fun Hb H xs ds P Q a s g k => ?_⟩
  cases a with
  | nil => exact (show False from g).elim
  | cons h1 t =>
    cases t with
    | cons h2 t => cases h1 <;> exact (show False from g).elim
    | nil =>
      cases h1 with
      | str z => exact ⟨z, rfl, g.1, k.val s (.int _) g.2⟩
      | _ => exact (show False from g).elim
def TupleW : GA
  | [.list xs], P => P (.tuple xs)
  | [.tuple xs], P => P (.tuple xs)
  | _, _ => False
theorem cd_tuple : CallD X (.type "tuple") TupleW := by
  refine ⟨_, call_tuple_of, fun Hb H xs ds P Q a s g k => ?_⟩
  cases a with
  | nil => exact (show False from g).elim
  | cons h1 t =>
    cases t with
    | cons h2 t => cases h1 <;> exact (show False from g).elim
    | nil =>
      cases h1 with
      | lst hs ha => exact ⟨_, _, rfl, .inl ⟨(hs.mono s.rd).sq, fun l hl => k.tup s hl ha g⟩⟩
      | tup hs ha => exact ⟨_, _, rfl, .inr ⟨s.rd.t hs, k.val s (.tup hs ha) g⟩⟩
      | _ => exact (show False from g).elim
def ListW : GA
  | [.list xs], P => P (.list xs)
  | [.tuple xs], P => P (.list xs)
  | _, _ => False
theorem cd_list : CallD X (.type "list") ListW := by
  refine ⟨_, call_list_of, fun Hb H xs ds P Q a s g k => ?_⟩
  cases a with
  | nil => exact (show False from g).elim
  | cons h1 t =>
    cases t with
    | cons h2 t => cases h1 <;> exact (show False from g).elim
    | nil =>
      cases h1 with
      | lst hs ha => exact ⟨_, _, rfl, .inl ((hs.mono s.rd).sq), fun l hl => k.lst s hl ha g⟩
      | tup hs ha => exact ⟨_, _, rfl, .inr (s.rd.t hs), fun l hl => k.lst s hl ha g⟩
      | _ => exact (show False from g).elim
/-- all, any of a list of bools -/
def AllW : GA
  | [.list xs], P => ∃ bs : List Bool, xs = bs.map .bool ∧ P (.bool (bs.all fun b => b))
  | _, _ => False
def AnyW : GA
  | [.list xs], P => ∃ bs : List Bool, xs = bs.map .bool ∧ P (.bool (bs.any fun b => b))
  | _, _ => False
theorem da_bools {K : PySem.W.Frag} {Hb : Hp} : ∀ {bs : List Bool} {vs : List V}, DaAll K Hb vs (bs.map .bool) → vs = bs.map V.bl
  | [], _, h => by
    cases h
    rfl
  | b :: bs, _, h => by
    cases h with
    | cons h1 t =>
      cases h1
      rw [da_bools t]
      rfl
theorem cd_all (hc : X.calm = true) : CallD X (.builtin "all") AllW := by
  refine ⟨_, cr_all hc, fun Hb H xs ds P Q a s g k => ?_⟩
  cases a with
  | nil => exact (show False from g).elim
  | cons h1 t =>
    cases t with
    | cons h2 t => cases h1 <;> exact (show False from g).elim
    | nil =>
      cases h1 with
      | lst hs ha =>
        obtain ⟨bs, e, p⟩ := g
        subst e
        rw [da_bools ha] at hs
        exact ⟨_, bs, rfl, (hs.mono s.rd).sq, k.val s (.bl _) p⟩
      | _ => exact (show False from g).elim
theorem cd_any (hc : X.calm = true) : CallD X (.builtin "any") AnyW := by
  refine ⟨_, cr_any hc, fun Hb H xs ds P Q a s g k => ?_⟩
  cases a with
  | nil => exact (show False from g).elim
  | cons h1 t =>
    cases t with
    | cons h2 t => cases h1 <;> exact (show False from g).elim
    | nil =>
      cases h1 with
      | lst hs ha =>
        obtain ⟨bs, e, p⟩ := g
        subst e
        rw [da_bools ha] at hs
        exact ⟨_, bs, rfl, (hs.mono s.rd).sq, k.val s (.bl _) p⟩
      | _ => exact (show False from g).elim
end
end DL

/-! The data layer: what is walked, for, while, list comprehensions. -/
namespace DL
open PySem PySem.Spec PyProof.Rows L2

/-- the iterator J yields the data xs, whatever comes behind Hb -/
def JOk (K : PySem.W.Frag) (J : It) (xs : List PyData) (Hb : Hp) : Prop := ∀ i Hb1 H, Same Hb Hb1 → Sub Hb1 H →
  (i < xs.length → J.go i H) ∧ (xs.length ≤ i → J.stop i H) ∧ ∀ v H', J.yld i H v H' → i < xs.length → ∃ d Hb2, xs[i]? = some d ∧ Sub Hb2 H' ∧ Grow N0 Hb1 H Hb2 H' ∧ Da K Hb2 v d
def tI (K : PySem.W.Frag) (ρ : DEnv) (Post : List PyData → DEnv → Prop) : TI := fun σ H R => ∃ Hb, Ok K σ Hb H ρ ∧ ∀ J xs Hb2 H2 ρ', Ok K σ Hb2 H2 ρ' → Grow (Owned σ ρ) Hb H Hb2 H2 → Like ρ ρ' → JOk K J xs Hb2 → xs.length ≤ 16777216 → Post xs ρ' → R J H2
def IW (X : Cx) (tg it : Expr) (ρ : DEnv) (Post : List PyData → DEnv → Prop) : Prop := PI X tg it (tI X.K ρ Post)
def tAnyI (X : Cx) (tg it : Expr) : TI := fun σ H R => ∀ pins s, Inv X pins σ H s → wpAny (model X.prog X.w) X.A (eval it X.env) (fun v s1 => wpAny (model X.prog X.w) X.A (pyIter v) (PIE X pins σ tg R) X.xe s1) X.xe s
section
variable {X : Cx} {ρ : DEnv} {tg it : Expr}
theorem pi_any (tg it : Expr) : PI X tg it (tAnyI X tg it) := ⟨fun pins s σ H R I h => h pins s I⟩
theorem IW.by {t : TI} {Post : List PyData → DEnv → Prop} (h : PI X tg it t) (w : ∀ σ H R, tI X.K ρ Post σ H R → t σ H R) : IW X tg it ρ Post := ⟨fun pins s σ H R I q => h.run pins s σ H R I (w σ H R q)⟩
theorem IW.go {P : List PyData → DEnv → Prop} {σ : L2.St} {H : Hp} {R : It → Hp → Prop} {ρ0 : DEnv} {Hb0 H0 Hb : Hp} (h : IW X tg it ρ P) (ok : Ok X.K σ Hb H ρ) (g : Grow (Owned σ ρ0) Hb0 H0 Hb H) (lk : Like ρ0 ρ)
    (k : ∀ J xs Hb2 H2 ρ', Ok X.K σ Hb2 H2 ρ' → Grow (Owned σ ρ0) Hb0 H0 Hb2 H2 → Like ρ0 ρ' → JOk X.K J xs Hb2 → xs.length ≤ 16777216 → P xs ρ' → R J H2) : tAnyI X tg it σ H R :=
  fun pins s I => h.run pins s σ H R I ⟨Hb, ok, fun J xs Hb2 H2 ρ' ok' g' l' j z p => k J xs Hb2 H2 ρ' ok' (g.trans g' fun p q => .inl (lk.owned q)) (lk.trans l') j z p⟩
/-- a list, a tuple, a text -/
def iSeq (K : PySem.W.Frag) (tl : TE) : TI := fun σ H R => tl σ H fun x H1 => (∃ a xs, x = .ref a ∧ SqL K H1 a xs ∧ (xs.length ≤ sizeLine → R (Itl K a) H1)) ∨ (∃ a xs, x = .ref a ∧ SqT K H1 a xs ∧ (xs.length ≤ sizeLine → R (Itt K a) H1)) ∨ ∃ z, x = .str z ∧ R (Its z) H1
theorem pi_seq {tl : TE} (hl : PE X it tl) : PI X tg it (iSeq X.K tl) := by
  refine ⟨fun pins s σ H R I h => ?_⟩
  refine thn (hl.run pins s σ H _ I h) fun v s1 ⟨x, H1, I1, r1, q1⟩ => ?_
  rcases q1 with ⟨a, xs, e, hq, q⟩ | ⟨a, xs, e, hq, q⟩ | ⟨z, e, q⟩
  · subst e
    cases r1
    obtain ⟨its, rv, p, hz⟩ := I1.list hq
    exact wpAny_pyIter_list p.isList (pi_one (tk := s1.toks) I1 _ (turn_list a _) ⟨_, Heap.get?_push_size _ rfl, rfl, rfl⟩ (q hz))
  · subst e
    cases r1
    obtain ⟨its, rv, p, hz⟩ := I1.tuple hq
    exact wpAny_pyIter_tuple (show s1.heap.IsTuple a its.toArray from p) (pi_one (tk := s1.toks) I1 _ (turn_tuple a _) ⟨_, Heap.get?_push_size _ rfl, rfl, rfl⟩ (q hz))
  · subst e
    obtain ⟨t, rfl⟩ := r1
    cases ha : z.cps.all (· < 128)
    · exact wpAny_pyIter_wide ha (pi_one (tk := s1.toks) I1 _ (turn_str _ z t "str_iterator" (.inr rfl)) ⟨_, Heap.get?_push_size _ rfl, rfl, rfl⟩ q)
    · exact wpAny_pyIter_ascii ha (pi_one (tk := s1.toks) I1 _ (turn_str _ z t "str_ascii_iterator" (.inl rfl)) ⟨_, Heap.get?_push_size _ rfl, rfl, rfl⟩ q)
def signsOf (z : Str) : List PyData := z.cps.toList.map fun c => .str ⟨#[c]⟩
def ItW (d : PyData) (P : List PyData → Prop) : Prop := match d with
  | .list xs => P xs
  | .tuple xs => P xs
  | .str z => z.length ≤ 16777216 ∧ P (signsOf z)
  | _ => False
theorem iw_seq {Post : List PyData → DEnv → Prop} (h : EW X it ρ fun d ρ' => ItW d fun xs => Post xs ρ') : IW X tg it ρ Post := by
  refine IW.by (pi_seq (pe_any it)) fun σ H R ⟨Hb, ok, k⟩ => ?_
  refine h.go ok (Grow.refl _ _ _) (Like.refl _) fun v d Hb1 H1 ρ1 ok1 g1 _ l1 d1 p1 => ?_
  cases d1 with
  | @lst a vs ds hs ha =>
    refine .inl ⟨a, vs, rfl, (hs.mono ok1.sub.rd).sq, fun hz => k _ ds Hb1 H1 ρ1 ok1 g1 l1 (fun i Hb2 H s1 s2 => ?_) (by rw [← ha.length, ← line_eq]; exact hz) p1⟩
    have hr : SqL X.K H a vs := ((hs.mono (same_rd s1)).mono s2.rd).sq
    refine ⟨fun hi => ⟨vs, vs[i]'(by rw [ha.length]; exact hi), hr, List.getElem?_eq_getElem _⟩, fun hi => ⟨vs, hr, by rw [ha.length]; exact hi⟩, fun v H' y hi => ?_⟩
    obtain ⟨rfl, y⟩ := y
    obtain ⟨d, e, q⟩ := ha.get (y vs hr)
    exact ⟨d, Hb2, e, s2, Grow.refl _ _ _, q.mono (same_rd s1)⟩
  | @tup a vs ds hs ha =>
    refine .inr (.inl ⟨a, vs, rfl, ok1.sub.rd.t hs, fun hz => k _ ds Hb1 H1 ρ1 ok1 g1 l1 (fun i Hb2 H s1 s2 => ?_) (by rw [← ha.length, ← line_eq]; exact hz) p1⟩)
    have hr : SqT X.K H a vs := s2.rd.t ((same_rd s1).t hs)
    refine ⟨fun hi => ⟨vs, vs[i]'(by rw [ha.length]; exact hi), hr, List.getElem?_eq_getElem _⟩, fun hi => ⟨vs, hr, by rw [ha.length]; exact hi⟩, fun v H' y hi => ?_⟩
    obtain ⟨rfl, y⟩ := y
    obtain ⟨d, e, q⟩ := ha.get (y vs hr)
    exact ⟨d, Hb2, e, s2, Grow.refl _ _ _, q.mono (same_rd s1)⟩
  | str z =>
    have hl : (signsOf z).length = z.cps.size := by simp [signsOf]
    refine .inr (.inr ⟨z, rfl, k _ (signsOf z) Hb1 H1 ρ1 ok1 g1 l1 (fun i Hb2 H s1 s2 => ?_) (by rw [hl]; exact p1.1) p1.2⟩)
    refine ⟨fun hi => by show i < z.cps.size; omega, fun hi => by show z.cps.size ≤ i; omega, fun v H' y hi => ?_⟩
    obtain ⟨rfl, c, e, rfl⟩ := y
    refine ⟨.str ⟨#[c]⟩, Hb2, ?_, s2, Grow.refl _ _ _, .str _⟩
    unfold signsOf
    rw [List.getElem?_map, Array.getElem?_toList, e]
    rfl
  | _ => exact (show False from p1).elim
/-- range(n), range(m, n) -/
def rangeD (lo : Int) (n : Nat) : List PyData := (List.range n).map fun (i : Nat) => PyData.int (lo + (i : Int))
theorem rangeD_length (lo : Int) (n : Nat) : (rangeD lo n).length = n := by simp [rangeD]
theorem rangeD_get {lo : Int} {n i : Nat} (h : i < n) : (rangeD lo n)[i]? = some (.int (lo + (i : Int))) := by
  unfold rangeD
  rw [List.getElem?_map, List.getElem?_range h]
  rfl
theorem jok_range {K : PySem.W.Frag} {lo : Int} {n : Nat} {Hb : Hp} : JOk K (Itr lo n) (rangeD lo n) Hb := fun i Hb1 H s1 s2 => by
  rw [rangeD_length]
  refine ⟨fun hi => hi, fun hi => hi, fun v H' y hi => ?_⟩
  obtain ⟨rfl, rfl⟩ := y
  exact ⟨_, Hb1, rangeD_get hi, s2, Grow.refl _ _ _, .int _⟩
def R1W (ds : List PyData) (P : List PyData → Prop) : Prop := match ds with
  | [.int n] => n ≤ 1000000000 ∧ P (rangeD 0 n.toNat)
  | _ => False
def R2W (ds : List PyData) (P : List PyData → Prop) : Prop := match ds with
  | [.int m, .int n] => (-1000000000 ≤ m ∧ m ≤ 1000000000 ∧ -1000000000 ≤ n ∧ n ≤ 1000000000) ∧ P (rangeD m (n - m).toNat)
  | _ => False
theorem iw_rng1 {a : Expr} {p pos : Pos} {Post : List PyData → DEnv → Prop} (hg : Gl X "range") (hm : X.mg "range" = none) (h : AW X [a] ρ fun ds ρ' => ∃ n : Int, ds = [.int n] ∧ (-1000000000 ≤ n ∧ n ≤ 16000000) ∧ Post (rangeD 0 n.toNat) ρ') (hs : starEach [a] X.env = [(false, eval a X.env)] := by rfl) : IW X tg (.Call (.Name "range" p) [a] [] pos) ρ Post := by
  refine IW.by (pi_range1 hg hm (pa_any [a]) hs) fun σ H R ⟨Hb, ok, k⟩ => ?_
  refine h.go ok (Grow.refl _ _ _) (Like.refl _) fun vs ds Hb1 H1 ρ1 ok1 g1 _ l1 d1 ⟨n, e, ⟨b1, b2⟩, p1⟩ => ?_
  subst e
  cases d1 with
  | cons h1 t =>
    cases t
    cases h1
    exact ⟨n, rfl, by omega, by omega, k _ _ Hb1 H1 ρ1 ok1 g1 l1 jok_range (by rw [rangeD_length]; omega) p1⟩
theorem iw_rng2 {a b : Expr} {p pos : Pos} {Post : List PyData → DEnv → Prop} (hg : Gl X "range") (hm : X.mg "range" = none) (h : AW X [a, b] ρ fun ds ρ' => ∃ m n : Int, ds = [.int m, .int n] ∧ (-1000000000 ≤ m ∧ m ≤ 1000000000 ∧ -1000000000 ≤ n ∧ n ≤ 1000000000 ∧ n - m ≤ 16000000) ∧ Post (rangeD m (n - m).toNat) ρ')
    (hs : starEach [a, b] X.env = [(false, eval a X.env), (false, eval b X.env)] := by rfl) (hs2 : starEach [b] X.env = [(false, eval b X.env)] := by rfl) : IW X tg (.Call (.Name "range" p) [a, b] [] pos) ρ Post := by
  refine IW.by (pi_range2 hg hm (pa_any [a, b]) hs hs2) fun σ H R ⟨Hb, ok, k⟩ => ?_
  refine h.go ok (Grow.refl _ _ _) (Like.refl _) fun vs ds Hb1 H1 ρ1 ok1 g1 _ l1 d1 ⟨m, n, e, ⟨b1, b2, b3, b4, b5⟩, p1⟩ => ?_
  subst e
  cases d1 with
  | cons h1 t =>
    cases t with
    | cons h2 t =>
      cases t
      cases h1
      cases h2
      exact ⟨m, n, rfl, ⟨by omega, by omega, by omega, by omega⟩, k _ _ Hb1 H1 ρ1 ok1 g1 l1 jok_range (by rw [rangeD_length]; omega) p1⟩
/-- enumerate of a list -/
def enumD (xs : List PyData) : List PyData := (List.range xs.length).map fun i => .tuple [.int (i : Nat), xs.getD i .none]
theorem iw_enum {a : Expr} {p pos tpos : Pos} {elts : List Expr} {kk : Nat} {Post : List PyData → DEnv → Prop} (hg : Gl X "enumerate") (hm : X.mg "enumerate" = none) (h : AW X [a] ρ fun ds ρ' => ∃ xs, ds = [.list xs] ∧ xs.length ≤ 16777216 ∧ Post (enumD xs) ρ') (hs : starEach [a] X.env = [(false, eval a X.env)] := by rfl) :
    IW X (.Tuple elts kk tpos) (.Call (.Name "enumerate" p) [a] [] pos) ρ Post := by
  refine IW.by (pi_enum hg hm (pa_any [a]) hs) fun σ H R ⟨Hb, ok, k⟩ => ?_
  refine h.go ok (Grow.refl _ _ _) (Like.refl _) fun vs ds Hb1 H1 ρ1 ok1 g1 _ l1 d1 ⟨xs, e, hz, p1⟩ => ?_
  subst e
  cases d1 with
  | cons h1 t =>
    cases t
    cases h1 with
    | @lst a vs ds hs ha =>
      have hl : (enumD xs).length = xs.length := by simp [enumD]
      refine ⟨a, vs, rfl, (hs.mono ok1.sub.rd).sq, k _ _ Hb1 H1 ρ1 ok1 g1 l1 (fun i Hb2 H s1 s2 => ?_) (by rw [hl]; exact hz) p1⟩
      have hr : SqL X.K H a vs := ((hs.mono (same_rd s1)).mono s2.rd).sq
      rw [hl]
      refine ⟨fun hi => ⟨vs, vs[i]'(by rw [ha.length]; exact hi), hr, List.getElem?_eq_getElem _⟩, fun hi => ⟨vs, hr, by rw [ha.length]; exact hi⟩, fun v H' y hi => ?_⟩
      obtain ⟨T, x, rfl, nT, rfl, y⟩ := y
      obtain ⟨d, e, q⟩ := ha.get (y vs hr)
      refine ⟨.tuple [.int (i : Nat), d], upd Hb2 T (.tup [.int (i : Nat), x]), ?_, s2.new, Grow.new s2 nT, ?_⟩
      · unfold enumD
        rw [List.getElem?_map, List.getElem?_range hi]
        show some (PyData.tuple [.int (i : Nat), xs.getD i .none]) = _
        rw [List.getD_eq_getElem?_getD, e]
        rfl
      · exact .tup (.inl (.inl upd_same)) (.cons (.int _) (.cons ((q.mono (same_rd s1)).mono (same_rd (same_new (s2.no nT)))) .nil))

/-! ### for -/
variable {pr ts : List Nat} {D : DE}
theorem Fin.keepSame {K : PySem.W.Frag} {σ σ1 : L2.St} {ρ1 : DEnv} {Hb H Hb1 H1 : Hp} (f : Fin K pr σ ρ Hb H σ1 ρ1 Hb1 H1) : Same Hb Hb1 := f.gr.per
/-- J: what holds behind i turns -/
theorem sw_for {body : List Stmt} {pos : Pos} (hp : PassesOwn (model X.prog X.w) X.A X.env X.xe) (hc : X.calm = true) (hd : ∀ i ∈ pr, i ∉ ts)
    (h : IW X tg it ρ fun xs ρ1 => ∃ J : Nat → DEnv → Prop, J 0 ρ1 ∧ (∀ i x ρi, xs[i]? = some x → J i ρi → GW X ts tg x ρi fun ρ2 => SsW X pr body ρ2 { D with nx := J (i + 1), ct := J (i + 1), bk := D.nx }) ∧ ∀ ρn, J xs.length ρn → D.nx ρn)
    (hs : ∀ x, foldedSetIterable it X.env x = pure x := by intro _; rfl) : SW X pr (.For tg it body [] pos) ρ D := by
  refine SW.by (ps_for hp hc (pi_any tg it) (pg_any tg) (pss_any body) hs) fun DD σ H ⟨Hb, ok, k1, k2, k3, k4⟩ => ?_
  refine h.go ok (Grow.refl _ _ _) (Like.refl _) fun I xs Hb1 H1 ρ1 ok1 g1 l1 j _ ⟨J, j0, js, jd⟩ => ?_
  refine ⟨fun i m σ' H' => m = xs.length - i ∧ i ≤ xs.length ∧ ∃ ρ' Hb', Fin X.K pr σ ρ Hb H σ' ρ' Hb' H' ∧ Same Hb1 Hb' ∧ J i ρ', ⟨xs.length, by simp, Nat.zero_le _, ρ1, Hb1, Fin.like ok1 g1 l1, Same.refl _, j0⟩, ?_⟩
  rintro i m σ' H' ⟨rfl, hi, ρ', Hb', f, sm, jj⟩
  obtain ⟨a1, a2, a3⟩ := j i Hb' H' sm f.ok.sub
  by_cases hlt : i < xs.length
  · refine .inr ⟨a1 hlt, fun σ2 H2 => ∃ ρ2 Hb2, Fin X.K pr σ ρ Hb H σ2 ρ2 Hb2 H2 ∧ Same Hb1 Hb2 ∧ J (i + 1) ρ2, fun σ2 H2 q => ⟨xs.length - (i + 1), by omega, rfl, hlt, q⟩, fun v H2 y => ?_⟩
    obtain ⟨d, Hb2, e, s2, g2, dv⟩ := a3 v H2 y hlt
    have f2 : Fin X.K pr σ ρ Hb H σ' ρ' Hb2 H2 := ⟨f.ok.grow g2 s2, f.gr.trans0 g2, f.ow, f.st⟩
    refine (js i d ρ' e jj).go f2 hd dv fun σ3 ρ3 Hb3 H3 f3 s3 p3 => ?_
    have sm3 := (sm.trans g2.per).trans s3
    exact SsW.go p3 f3 ⟨fun σ4 ρ4 Hb4 H4 f4 s4 q => ⟨ρ4, Hb4, f4, sm3.trans s4, q⟩, k2, fun σ4 ρ4 Hb4 H4 f4 q => k1 σ4 ρ4 Hb4 H4 f4 q, fun σ4 ρ4 Hb4 H4 f4 s4 q => ⟨ρ4, Hb4, f4, sm3.trans s4, q⟩⟩
  · have ei : i = xs.length := by omega
    subst ei
    exact .inl ⟨a2 (Nat.le_refl _), k1 σ' ρ' Hb' H' f (jd ρ' jj)⟩
/-- while: J m holds, m falls -/
theorem sw_while {c : Expr} {body : List Stmt} {pos : Pos} (hp : PassesOwn (model X.prog X.w) X.A X.env X.xe) (J : Nat → DEnv → Prop) (m0 : Nat) (h0 : J m0 ρ)
    (hs : ∀ m ρ', J m ρ' → TW X c ρ' fun b ρ1 => (b = true → SsW X pr body ρ1 { D with nx := fun ρ2 => ∃ m', m' < m ∧ J m' ρ2, ct := fun ρ2 => ∃ m', m' < m ∧ J m' ρ2, bk := D.nx }) ∧ (b = false → D.nx ρ1)) : SW X pr (.While c body [] pos) ρ D := by
  refine SW.by (ps_while hp (pt_any c) (pss_any body)) fun DD σ H ⟨Hb, ok, k1, k2, k3, k4⟩ => ?_
  refine ⟨fun m σ' H' => ∃ ρ' Hb', Fin X.K pr σ ρ Hb H σ' ρ' Hb' H' ∧ J m ρ', ⟨m0, ρ, Hb, Fin.refl ok, h0⟩, ?_⟩
  rintro m σ' H' ⟨ρ', Hb', f, jj⟩
  refine (hs m ρ' jj).go f.ok (Grow.refl _ _ _) (Like.refl _) fun b Hb1 H1 ρ1 ok1 g1 _ l1 ⟨p1, p2⟩ => ?_
  have f1 := f.trans (Fin.like ok1 g1 l1)
  cases b with
  | true =>
    refine ⟨fun σ2 H2 => ∃ ρ2 Hb2, Fin X.K pr σ ρ Hb H σ2 ρ2 Hb2 H2 ∧ ∃ m', m' < m ∧ J m' ρ2, fun σ2 H2 ⟨ρ2, Hb2, f2, m', hm, q⟩ => ⟨m', hm, ρ2, Hb2, f2, q⟩, ?_⟩
    exact (p1 rfl).go f1 ⟨fun σ4 ρ4 Hb4 H4 f4 _ q => ⟨ρ4, Hb4, f4, q⟩, k2, fun σ4 ρ4 Hb4 H4 f4 q => k1 σ4 ρ4 Hb4 H4 f4 q, fun σ4 ρ4 Hb4 H4 f4 _ q => ⟨ρ4, Hb4, f4, q⟩⟩
  | false => exact k1 σ' ρ1 Hb1 H1 f1 (p2 rfl)
end

/-! ### list comprehensions: the block's own slots vs are unknown ahead, and behind what they were -/
/-- the names of the block known again as they were ahead -/
def backD (ρ0 ρ : DEnv) (vs : List Nat) : DEnv := (List.range ρ.length).map fun i => if i ∈ vs then ρ0.getD i .un else ρ.getD i .un
theorem backD_self (ρ : DEnv) (vs : List Nat) : backD ρ (wipeD ρ vs) vs = ρ := by
  unfold backD
  rw [wipeD_length]
  refine List.ext_getElem? fun i => ?_
  rw [List.getElem?_map]
  by_cases hi : i < ρ.length
  · rw [List.getElem?_range hi, List.getElem?_eq_getElem hi]
    show some (if i ∈ vs then _ else _) = _
    by_cases hv : i ∈ vs
    · rw [if_pos hv, List.getD_eq_getElem?_getD, List.getElem?_eq_getElem hi]
      rfl
    · rw [if_neg hv, List.getD_eq_getElem?_getD, wipeD_get ρ vs i hv, List.getElem?_eq_getElem hi]
      rfl
  · rw [List.getElem?_eq_none (by simpa using hi), List.getElem?_eq_none (by simpa using hi)]
    rfl
section
variable {K : PySem.W.Frag} {σ : L2.St} {Hb H : Hp} {ρ : DEnv} {vs : List Nat}
/-- the slots of the block aren't own objects -/
def NoOw (ρ : DEnv) (vs : List Nat) : Prop := ∀ i ∈ vs, ∀ o, ρ[i]? ≠ some (.ow o)
theorem Ok.wiped (ok : Ok K σ Hb H ρ) : Ok K (wipe σ vs) Hb H (wipeD ρ vs) := by
  have h : ∀ (i : Nat) (s : Sl), (wipeD ρ vs)[i]? = some s → s ≠ .un → i ∉ vs ∧ ρ[i]? = some s ∧ (wipe σ vs)[i]? = σ[i]? := fun i s e n => by
    by_cases hv : i ∈ vs
    · exact absurd (wipeD_in hv e) n
    · rw [wipeD_get ρ vs i hv] at e
      exact ⟨hv, e, wipe_get σ vs i hv⟩
  refine ⟨by rw [wipeD_length, wipe_length]; exact ok.len, ok.sub, fun i s e => ?_, fun i j o o' p ei ej si sj => ?_⟩
  · cases s with
    | un => trivial
    | pd d =>
      obtain ⟨_, e1, e2⟩ := h i _ e (by simp)
      have q := ok.sl i _ e1
      rw [e2]
      exact q
    | ow o =>
      obtain ⟨_, e1, e2⟩ := h i _ e (by simp)
      have q := ok.sl i _ e1
      rw [e2]
      exact q
  · obtain ⟨_, e1, e2⟩ := h i _ ei (by simp)
    obtain ⟨_, e3, e4⟩ := h j _ ej (by simp)
    rw [e2] at si
    rw [e4] at sj
    exact ok.ap i j o o' p e1 e3 si sj
theorem owned_wipe {p : Addr} (h : Owned (wipe σ vs) (wipeD ρ vs) p) : Owned σ ρ p := by
  obtain ⟨i, o, e, s⟩ := h
  by_cases hv : i ∈ vs
  · cases wipeD_in hv e
  · rw [wipeD_get ρ vs i hv] at e
    rw [wipe_get σ vs i hv] at s
    exact ⟨i, o, e, s⟩
end
end DL

/-! The data layer: list comprehensions, own lists, isinstance, f-strings, methods of texts. -/
namespace DL
open PySem PySem.Spec PyProof.Rows L2

/-! ### list comprehensions -/
abbrev Bk (X : Cx) (scope : Scope) (s : Shared) (H : Hp) (C : Addr) (cl : List (Str × Addr)) (fp : List Addr) : Cx := X.blk s H scope (compEnvC scope cl C X.env) fp
def TsW (X : Cx) (ifs : List Expr) (ρ : DEnv) (P : Bool → DEnv → Prop) : Prop := PTs X ifs (tWT X.K ρ P)
/-- in every block -/
def GB (X : Cx) (scope : Scope) (ts : List Nat) (tg : Expr) (d : PyData) (ρ : DEnv) (P : DEnv → Prop) : Prop := ∀ s H C cl fp, GW (Bk X scope s H C cl fp) ts tg d ρ P
def TB (X : Cx) (scope : Scope) (ifs : List Expr) (ρ : DEnv) (P : Bool → DEnv → Prop) : Prop := ∀ s H C cl fp, TsW (Bk X scope s H C cl fp) ifs ρ P
def EB (X : Cx) (scope : Scope) (e : Expr) (ρ : DEnv) (P : PyData → DEnv → Prop) : Prop := ∀ s H C cl fp, EW (Bk X scope s H C cl fp) e ρ P
section
variable {X : Cx} {ρ : DEnv} {scope : Scope}
def tAnyGB (X : Cx) (scope : Scope) (tg : Expr) : TG := fun v σ H Q => ∀ s0 H0 C cl fp pins s u, Inv (Bk X scope s0 H0 C cl fp) pins σ H s → RelV v u →
  wpAny (model X.prog X.w) X.A (assign tg (compEnvC scope cl C X.env) u) (fun _ s' => ∃ σ' H', Inv (Bk X scope s0 H0 C cl fp) pins σ' H' s' ∧ Q σ' H') (fun _ _ => False) s
def tAnyTB (X : Cx) (scope : Scope) (ifs : List Expr) : TT := fun σ H Q => ∀ s0 H0 C cl fp pins s, Inv (Bk X scope s0 H0 C cl fp) pins σ H s →
  wpAny (model X.prog X.w) X.A (forIn ifs true fun c r => if r = true then do let ok ← isTrue c (compEnvC scope cl C X.env) (eval c (compEnvC scope cl C X.env)); pure (ForInStep.yield ok) else pure (ForInStep.yield r)) (TP (Bk X scope s0 H0 C cl fp) pins σ Q) (fun _ _ => False) s
def tAnyEB (X : Cx) (scope : Scope) (e : Expr) : TE := fun σ H Q => ∀ s0 H0 C cl fp pins s, Inv (Bk X scope s0 H0 C cl fp) pins σ H s →
  wpAny (model X.prog X.w) X.A (eval e (compEnvC scope cl C X.env)) (EP (Bk X scope s0 H0 C cl fp) pins σ Q) (fun _ _ => False) s
theorem tsw_nil {P : Bool → DEnv → Prop} (h : P true ρ) : TsW X [] ρ P := ⟨fun pins s σ H Q I ⟨Hb, ok, k⟩ => pts_nil.run pins s σ H Q I (k true Hb H ρ ok (Grow.refl _ _ _) (Like.refl _) h)⟩
theorem tsw_one {c : Expr} {P : Bool → DEnv → Prop} (h : TW X c ρ P) : TsW X [c] ρ P := pts_one h
theorem tb_nil {P : Bool → DEnv → Prop} (h : P true ρ) : TB X scope [] ρ P := fun _ _ _ _ _ => tsw_nil h
theorem tb_one {c : Expr} {P : Bool → DEnv → Prop} (h : ∀ s H C cl fp, TW (Bk X scope s H C cl fp) c ρ P) : TB X scope [c] ρ P := fun s H C cl fp => tsw_one (h s H C cl fp)
/-- what stands within a block, the new list at p: the own objects ahead may hold other things -/
structure BFin (K : PySem.W.Frag) (vs : List Nat) (σ : L2.St) (p : Addr) (ρ1 : DEnv) (Hb1 H1 : Hp) (ρi : DEnv) (Hb H : Hp) : Prop where
  ok : Ok K (wipe σ vs) Hb H ρi
  gr : Grow (fun a => Owned (wipe σ vs) (wipeD ρ1 vs) a ∨ a = p) Hb1 H1 Hb H
  lk : Like (wipeD ρ1 vs) ρi
/-- an object that nobody owns, not told as data, is written -/
theorem Ok.put {K : PySem.W.Frag} {σ : L2.St} {ρ : DEnv} {Hb H : Hp} {p : Addr} {u : HO} (ok : Ok K σ Hb H ρ) (nb : Hb p = none) (no : ¬ Owned σ ρ p) : Ok K σ Hb (upd H p u) ρ := by
  refine ⟨ok.len, fun a x e => ?_, fun i s e => ?_, ok.ap⟩
  · rw [upd_ne (ne_of_none e nb)]
    exact ok.sub a x e
  · have z := ok.sl i s e
    cases s with
    | un => trivial
    | pd d => exact z
    | ow o =>
      obtain ⟨q, x, e1, e2, e3, e4⟩ := z
      refine ⟨q, x, e1, e2, ?_, e4⟩
      rw [upd_ne]
      · exact e3
      · rintro rfl
        exact no ⟨i, o, e, e1⟩
theorem wipe_idem (σ : L2.St) (vs : List Nat) : wipe (wipe σ vs) vs = wipe σ vs := by
  refine List.ext_getElem? fun n => ?_
  by_cases hv : n ∈ vs
  · have c : ∀ (τ : L2.St), n < τ.length → (wipe τ vs)[n]? = some none := by
      intro τ hn
      have hn' : n < (wipe τ vs).length := by rw [wipe_length]; exact hn
      rw [List.getElem?_eq_getElem hn']
      cases q : (wipe τ vs)[n] with
      | none => rfl
      | some x =>
        have z := (wipe_some (i := n) (x := x) (vs := vs) (σ := τ) (by rw [List.getElem?_eq_getElem hn', q])).2
        exact absurd hv z
    by_cases hn : n < σ.length
    · rw [c σ hn, c (wipe σ vs) (by rw [wipe_length]; exact hn)]
    · rw [List.getElem?_eq_none (by rw [wipe_length, wipe_length]; omega), List.getElem?_eq_none (by rw [wipe_length]; omega)]
  · rw [wipe_get _ vs n hv]
theorem backD_like {ρ1 ρi : DEnv} {vs : List Nat} (l : Like (wipeD ρ1 vs) ρi) : Like ρ1 (backD ρ1 ρi vs) := by
  have hl : ρ1.length = ρi.length := by
    have := l.1
    rw [wipeD_length] at this
    exact this
  refine ⟨by unfold backD; rw [List.length_map, List.length_range]; exact hl, fun i => ?_⟩
  by_cases hi : i < ρ1.length
  · have e : (backD ρ1 ρi vs)[i]? = some (if i ∈ vs then ρ1.getD i .un else ρi.getD i .un) := by
      unfold backD
      rw [List.getElem?_map, List.getElem?_range (hl ▸ hi)]
      rfl
    rw [e]
    by_cases hv : i ∈ vs
    · rw [if_pos hv, List.getD_eq_getElem?_getD, List.getElem?_eq_getElem hi]
      exact .inl rfl
    · rw [if_neg hv]
      have q := l.2 i
      rw [wipeD_get ρ1 vs i hv] at q
      have hi' : i < ρi.length := hl ▸ hi
      rw [List.getD_eq_getElem?_getD, List.getElem?_eq_getElem hi']
      rw [List.getElem?_eq_getElem hi'] at q
      exact q
  · rw [List.getElem?_eq_none (by omega), List.getElem?_eq_none (by unfold backD; rw [List.length_map, List.length_range]; omega)]
    exact .inl rfl
theorem backD_get {ρ1 ρi : DEnv} {vs : List Nat} {i : Nat} {s : Sl} (e : (backD ρ1 ρi vs)[i]? = some s) (hl : ρ1.length = ρi.length) : (i ∈ vs ∧ ρ1[i]? = some s) ∨ (i ∉ vs ∧ ρi[i]? = some s) := by
  unfold backD at e
  by_cases hi : i < ρi.length
  · rw [List.getElem?_map, List.getElem?_range hi] at e
    have e : (if i ∈ vs then ρ1.getD i .un else ρi.getD i .un) = s := Option.some.inj e
    by_cases hv : i ∈ vs
    · rw [if_pos hv, List.getD_eq_getElem?_getD, List.getElem?_eq_getElem (hl ▸ hi)] at e
      exact .inl ⟨hv, by rw [List.getElem?_eq_getElem (hl ▸ hi)]; exact congrArg some e⟩
    · rw [if_neg hv, List.getD_eq_getElem?_getD, List.getElem?_eq_getElem hi] at e
      exact .inr ⟨hv, by rw [List.getElem?_eq_getElem hi]; exact congrArg some e⟩
  · rw [List.getElem?_eq_none (by rw [List.length_map, List.length_range]; omega)] at e
    cases e
theorem back_ok {K : PySem.W.Frag} {vs : List Nat} {σ : L2.St} {ρ1 ρi : DEnv} {Hb1 H1 Hb H : Hp} (ok1 : Ok K σ Hb1 H1 ρ1) (hno : NoOw ρ1 vs) {p : Addr} (f : BFin K vs σ p ρ1 Hb1 H1 ρi Hb H) : Ok K σ Hb H (backD ρ1 ρi vs) := by
  have hl : ρ1.length = ρi.length := by
    have := f.lk.1
    rw [wipeD_length] at this
    exact this
  refine ⟨by rw [← (backD_like f.lk).1]; exact ok1.len, f.ok.sub, fun i s e => ?_, fun i j o o' p ei ej si sj => ?_⟩
  · rcases backD_get e hl with ⟨hv, q⟩ | ⟨hv, q⟩
    · have z := ok1.sl i s q
      cases s with
      | un => trivial
      | pd d =>
        obtain ⟨v, e1, e2⟩ := z
        exact ⟨v, e1, e2.mono (same_rd f.gr.per)⟩
      | ow o => exact absurd q (hno i hv o)
    · have z := f.ok.sl i s q
      rw [wipe_get σ vs i hv] at z
      exact z
  · rcases backD_get ei hl with ⟨hv, q⟩ | ⟨hv, q⟩
    · exact absurd q (hno i hv o)
    · rcases backD_get ej hl with ⟨hv', q'⟩ | ⟨hv', q'⟩
      · exact absurd q' (hno j hv' o')
      · exact f.ok.ap i j o o' p q q' (by rw [wipe_get σ vs i hv]; exact si) (by rw [wipe_get σ vs j hv']; exact sj)
/-- the reading of a list comprehension, from what its parts come to -/
theorem lc_read {tg iter elt : Expr} {ifs : List Expr} {vs : List Nat} {P : OD → DEnv → Prop} {σ : L2.St} {H : Hp} {Q : VK}
    (h : IW X tg iter ρ fun xs ρ1 => NoOw ρ1 vs ∧ ∃ J : Nat → List PyData → DEnv → Prop, J 0 [] (wipeD ρ1 vs) ∧
      (∀ i x acc ρi, xs[i]? = some x → J i acc ρi → GB X scope vs tg x ρi fun ρ2 => TB X scope ifs ρ2 fun b ρ3 => (b = true → EB X scope elt ρ3 fun d ρ4 => J (i + 1) (acc ++ [d]) (wipeD ρ4 vs)) ∧ (b = false → J (i + 1) acc (wipeD ρ3 vs))) ∧
      ∀ acc ρn, J xs.length acc ρn → P (.lst acc) (backD ρ1 ρn vs)) (q : tN X.K ρ P σ H Q) : tLc (tAnyI X tg iter) (tAnyGB X scope tg) (tAnyTB X scope ifs) (tAnyEB X scope elt) vs σ H Q := by
  obtain ⟨Hb, ok, k⟩ := q
  refine h.go ok (Grow.refl _ _ _) (Like.refl _) fun I xs Hb1 H1 ρ1 ok1 g1 l1 j hz ⟨hno, J, j0, js, jd⟩ => fun p hp => ?_
  have nb1 : Hb1 p = none := ok1.sub.no hp
  let Hn : Hp := upd H1 p (.lst [])
  -- behind i turns: the list at p, the rest as a block leaves it
  let Pv : Nat → Hp → Prop := fun i H' => ∃ ρi Hb' acc vacc, BFin X.K vs σ p ρ1 Hb1 Hn ρi Hb' H' ∧ Hb' p = none ∧ H' p = some (.lst vacc) ∧ DaAll X.K Hb' vacc acc ∧ acc.length ≤ i ∧ J i acc ρi
  refine ⟨fun i m H' => m = xs.length - i ∧ i ≤ xs.length ∧ Pv i H', ⟨xs.length, by simp, Nat.zero_le _, wipeD ρ1 vs, Hb1, [], [], ⟨?_, Grow.refl _ _ _, Like.refl _⟩, nb1, upd_same, .nil, Nat.le_refl _, j0⟩, ?_⟩
  · exact (ok1.grow (Grow.newH hp) (ok1.sub.newH nb1)).wiped
  have own_p : ∀ {ρi : DEnv}, Like (wipeD ρ1 vs) ρi → ¬ Owned (wipe σ vs) ρi p := fun l z => by
    obtain ⟨i, o, e, s⟩ := owned_wipe (l.owned z)
    obtain ⟨q, u, e1, _, e3, _⟩ := ok1.own e
    rw [s] at e1
    cases e1
    rw [hp] at e3
    cases e3
  rintro i m H' ⟨rfl, hi, ρi, Hb', acc, vacc, f, np, hl, da, hacc, jj⟩
  have sm : Same Hb1 Hb' := f.gr.per
  obtain ⟨a1, a2, a3⟩ := j i Hb' H' sm f.ok.sub
  by_cases hlt : i < xs.length
  · refine .inr ⟨a1 hlt, Pv (i + 1), fun H2 q => ⟨xs.length - (i + 1), by omega, rfl, hlt, q⟩, fun v H2 y => ?_⟩
    obtain ⟨d, Hb2, e, s2, g2, dv⟩ := a3 v H2 y hlt
    have ok2 : Ok X.K (wipe σ vs) Hb2 H2 ρi := f.ok.grow g2 s2
    have np2 : Hb2 p = none := g2.hid p (fun z => z) np (by rw [hl]; simp)
    have hl2 : H2 p = some (.lst vacc) := g2.keep p _ hl fun z => z
    intro s0 H0 C cl fp pins s u I0 ru
    refine (js i d acc ρi e jj s0 H0 C cl fp).run pins s (wipe σ vs) H2 v u _ I0 ru ⟨Hb2, ok2, dv, fun σ3 ρ3 Hb3 H3 f3 p3 => ?_⟩
    have w3 : wipe σ3 vs = wipe σ vs := f3.wp.trans (wipe_idem σ vs)
    refine ⟨w3, fun s0 H0 C cl fp pins s I0 => ?_⟩
    refine (p3 s0 H0 C cl fp).run pins s σ3 H3 _ I0 ⟨Hb3, f3.ok, fun b Hb4 H4 ρ4 ok4 g4 l4 p4 => ?_⟩
    -- all that a block's own slots don't say
    have gall : Grow (fun a => Owned (wipe σ vs) (wipeD ρ1 vs) a ∨ a = p) Hb1 Hn Hb3 H3 := (f.gr.trans0 g2).trans f3.gr fun q z => .inl (.inl (f.lk.owned z))
    have own3 : ∀ q, Owned σ3 ρ3 q → Owned (wipe σ vs) (wipeD ρ1 vs) q ∨ H2 q = none := fun q z => (f3.ow q z).imp (fun z => f.lk.owned z) id
    have np3o : ¬ Owned σ3 ρ3 p := fun z => (own3 p z).elim (own_p (Like.refl _)) fun n => by
      rw [hl2] at n
      cases n
    have np3 : Hb3 p = none := f3.gr.hid p (own_p f.lk) np2 (by rw [hl2]; simp)
    have hl3 : H3 p = some (.lst vacc) := f3.gr.keep p _ hl2 (own_p f.lk)
    have np4 : Hb4 p = none := g4.hid p np3o np3 (by rw [hl3]; simp)
    have hl4 : H4 p = some (.lst vacc) := g4.keep p _ hl3 np3o
    have back : ∀ {q : Addr}, H2 q = none → Hn q = none := fun {q} n => by
      cases z : Hn q with
      | none => rfl
      | some o => exact absurd n ((f.gr.trans0 g2).there q (by rw [z]; simp))
    -- the block's end, own slots forgotten
    have fend : ∀ {ρ5 : DEnv} {Hb5 H5 : Hp}, Ok X.K σ3 Hb5 H5 ρ5 → Grow (Owned σ3 ρ3) Hb3 H3 Hb5 H5 → Like ρ3 ρ5 → BFin X.K vs σ p ρ1 Hb1 Hn (wipeD ρ5 vs) Hb5 H5 := fun {ρ5 Hb5 H5} ok5 g5 l5 => by
      refine ⟨by rw [← w3]; exact ok5.wiped, gall.trans g5 fun q z => (own3 q z).imp .inl back, ?_⟩
      have a := f.lk.wiped vs
      rw [wipeD_idem] at a
      exact (a.trans f3.lw).trans (l5.wiped vs)
    have da4 : DaAll X.K Hb4 vacc acc := da.mono (same_rd (((g2.per).trans f3.gr.per).trans g4.per))
    cases b with
    | false => exact ⟨wipeD ρ4 vs, Hb4, acc, vacc, fend ok4 g4 l4, np4, hl4, da4, by omega, p4.2 rfl⟩
    | true =>
      intro s0 H0 C cl fp pins s I0
      refine (p4.1 rfl s0 H0 C cl fp).run pins s σ3 H4 _ I0 ⟨Hb4, ok4, fun w dw Hb5 H5 ρ5 ok5 g5 l5 dv5 p5 => ?_⟩
      have np4o : ¬ Owned σ3 ρ4 p := fun z => np3o (l4.owned z)
      have np5o : ¬ Owned σ3 ρ5 p := fun z => np4o (l5.owned z)
      have np5 : Hb5 p = none := g5.hid p np4o np4 (by rw [hl4]; simp)
      have hl5 : H5 p = some (.lst vacc) := g5.keep p _ hl4 np4o
      have da5 : DaAll X.K Hb5 (vacc ++ [w]) (acc ++ [dw]) := (da4.mono (same_rd g5.per)).append (.cons dv5 .nil)
      refine ⟨vacc, hl5, by rw [line_eq, da4.length]; omega, ?_⟩
      have g45 : Grow (Owned σ3 ρ3) Hb3 H3 Hb5 H5 := g4.trans g5 fun q z => .inl (l4.owned z)
      have f5 := fend ok5 g45 (l4.trans l5)
      refine ⟨wipeD ρ5 vs, Hb5, acc ++ [dw], vacc ++ [w], ⟨f5.ok.put np5 (own_p f5.lk), f5.gr.trans (O' := fun a => a = p) (Grow.write rfl) fun q z => .inl (.inr z), f5.lk⟩, np5, upd_same, da5, by rw [List.length_append]; simp; omega, p5⟩
  · have ei : i = xs.length := by omega
    subst ei
    refine .inl ⟨a2 (Nat.le_refl _), ?_⟩
    have n0 : H p = none := by
      cases z : H p with
      | none => rfl
      | some x => exact absurd hp (g1.there p (by rw [z]; simp))
    refine k p (.lst vacc) (.lst acc) Hb' H' (backD ρ1 ρi vs) (back_ok (Ok.grow ok1 (Grow.newH hp) (ok1.sub.newH nb1)) hno f) ?_ (l1.trans (backD_like f.lk)) n0 np hl ⟨vacc, rfl, da⟩ (jd acc ρi jj)
    refine (g1.trans0 (Grow.newH hp)).trans f.gr fun q z => ?_
    rcases z with z | z
    · exact .inl (l1.owned (owned_wipe z))
    · exact .inr (z ▸ n0)
theorem blk_pg {tg : Expr} (s : Shared) (H : Hp) (C : Addr) (cl : List (Str × Addr)) (fp : List Addr) : PG (Bk X scope s H C cl fp) tg (tAnyGB X scope tg) := ⟨fun pins s' σ H' v u Q I r h => h s H C cl fp pins s' u I r⟩
theorem blk_pt {ifs : List Expr} (s : Shared) (H : Hp) (C : Addr) (cl : List (Str × Addr)) (fp : List Addr) : PTs (Bk X scope s H C cl fp) ifs (tAnyTB X scope ifs) := ⟨fun pins s' σ H' Q I h => h s H C cl fp pins s' I⟩
theorem blk_pe {e : Expr} (s : Shared) (H : Hp) (C : Addr) (cl : List (Str × Addr)) (fp : List Addr) : PE (Bk X scope s H C cl fp) e (tAnyEB X scope e) := ⟨fun pins s' σ H' Q I h => h s H C cl fp pins s' I⟩
/-- [elt for tg in iter if ..] -/
theorem en_lc {tg iter elt : Expr} {ifs : List Expr} {own : List (Str × Nat)} {pos : Pos} {P : OD → DEnv → Prop} (hc : X.calm = true) (hN : X.N.Nodup) (ok : BlkOk X.N X.env.scope scope own)
    (h : IW X tg iter ρ fun xs ρ1 => NoOw ρ1 (own.map (·.2)) ∧ ∃ J : Nat → List PyData → DEnv → Prop, J 0 [] (wipeD ρ1 (own.map (·.2))) ∧
      (∀ i x acc ρi, xs[i]? = some x → J i acc ρi → GB X scope (own.map (·.2)) tg x ρi fun ρ2 => TB X scope ifs ρ2 fun b ρ3 => (b = true → EB X scope elt ρ3 fun d ρ4 => J (i + 1) (acc ++ [d]) (wipeD ρ4 (own.map (·.2)))) ∧ (b = false → J (i + 1) acc (wipeD ρ3 (own.map (·.2))))) ∧
      ∀ acc ρn, J xs.length acc ρn → P (.lst acc) (backD ρ1 ρn (own.map (·.2)))) (hs : ∀ x, foldedSetIterable iter X.env x = pure x := by intro _; rfl) : EN X (.ListComp elt [⟨tg, iter, ifs, 0⟩] scope pos) ρ P :=
  EN.by (pe_lc hc hN (pi_any tg iter) ok (fun s H C cl fp => blk_pg s H C cl fp) (fun s H C cl fp => blk_pt s H C cl fp) (fun s H C cl fp => blk_pe s H C cl fp) hs) fun σ H Q q => lc_read h q
/-- .. that changes no own object: f tells the items, c which are taken -/
theorem en_lcP {tg iter elt : Expr} {ifs : List Expr} {own : List (Str × Nat)} {pos : Pos} {P : OD → DEnv → Prop} (hc : X.calm = true) (hN : X.N.Nodup) (ok : BlkOk X.N X.env.scope scope own)
    (h : IW X tg iter ρ fun xs ρ1 => NoOw ρ1 (own.map (·.2)) ∧ ∃ (c : PyData → Bool) (f : PyData → PyData), (∀ x, x ∈ xs → GB X scope (own.map (·.2)) tg x (wipeD ρ1 (own.map (·.2))) fun ρ2 => TB X scope ifs ρ2 fun b ρ3 => wipeD ρ3 (own.map (·.2)) = wipeD ρ1 (own.map (·.2)) ∧ b = c x ∧
        (b = true → EB X scope elt ρ3 fun d ρ4 => wipeD ρ4 (own.map (·.2)) = wipeD ρ1 (own.map (·.2)) ∧ d = f x)) ∧ P (.lst ((xs.filter c).map f)) ρ1) (hs : ∀ x, foldedSetIterable iter X.env x = pure x := by intro _; rfl) : EN X (.ListComp elt [⟨tg, iter, ifs, 0⟩] scope pos) ρ P := by
  refine en_lc hc hN ok ?_ hs
  refine IW.by h fun σ H R ⟨Hb, ok, k⟩ => ⟨Hb, ok, fun J xs Hb2 H2 ρ1 ok2 g2 l2 j hz ⟨hno, c, f, hx, hP⟩ => k J xs Hb2 H2 ρ1 ok2 g2 l2 j hz ⟨hno, fun i acc ρi => acc = ((xs.take i).filter c).map f ∧ ρi = wipeD ρ1 (own.map (·.2)), ⟨by simp, rfl⟩, fun i x acc ρi ex ⟨ea, er⟩ => ?_, fun acc ρn ⟨ea, er⟩ => ?_⟩⟩
  · subst ea er
    have step : (xs.take (i + 1)).filter c = (xs.take i).filter c ++ (if c x = true then [x] else []) := by
      rw [List.take_add_one, ex, List.filter_append]
      congr 1
      by_cases q : c x = true <;> simp [q]
    intro s H C cl fp
    refine ⟨fun pins s2 σ2 H2 v u Q I r w => (hx x (List.mem_of_getElem? ex) s H C cl fp).run pins s2 σ2 H2 v u Q I r ?_⟩
    obtain ⟨Hb, ok, dv, k⟩ := w
    refine ⟨Hb, ok, dv, fun σ' ρ' Hb2 H2 f2 p2 => k σ' ρ' Hb2 H2 f2 fun s H C cl fp => ⟨fun pins s2 σ2 H2 Q I w => (p2 s H C cl fp).run pins s2 σ2 H2 Q I ?_⟩⟩
    obtain ⟨Hb, ok, k⟩ := w
    refine ⟨Hb, ok, fun b Hb2 H2 ρ3 ok3 g3 l3 ⟨e1, e2, e3⟩ => k b Hb2 H2 ρ3 ok3 g3 l3 ⟨fun hb s H C cl fp => (e3 hb s H C cl fp).mono fun d ρ4 ⟨z1, z2⟩ => ⟨?_, z1⟩, fun hb => ⟨?_, e1⟩⟩⟩
    · rw [step, if_pos (e2 ▸ hb), z2, List.map_append]
      rfl
    · rw [step, if_neg (by rw [← e2, hb]; exact Bool.false_ne_true), List.append_nil]
  · subst ea er
    rw [backD_self, List.take_length]
    exact hP
end
end DL

/-! The data layer: own lists changed, isinstance, f-strings, methods of texts; a def's promise. -/
namespace DL
open PySem PySem.Spec PyProof.Rows L2
section
variable {X : Cx} {ρ : DEnv} {pr : List Nat} {D : DE} {pos : Pos}

/-! ### y = [..] on one line -/
theorem sw_lc {scope : Scope} {y : Str} {py spos : Pos} {tg iter elt : Expr} {ifs : List Expr} {own : List (Str × Nat)} (i : Nat) (hc : X.calm = true) (hN : X.N.Nodup) (hy : X.N[i]? = some y) (hyl : X.env.scope.names.lookup y = some .local)
    (hsw : swapsWith (.ListComp elt [⟨tg, iter, ifs, 0⟩] scope pos) (some (.Name y py)) spos.line X.env = pure true) (ok : BlkOk X.N X.env.scope scope own) (hi : i ∉ pr) (hil : i < ρ.length) (o1 : Bool)
    (h : IW X tg iter ρ fun xs ρ1 => NoOw ρ1 (own.map (·.2)) ∧ ∃ J : Nat → List PyData → DEnv → Prop, J 0 [] (wipeD ρ1 (own.map (·.2))) ∧
      (∀ i x acc ρi, xs[i]? = some x → J i acc ρi → GB X scope (own.map (·.2)) tg x ρi fun ρ2 => TB X scope ifs ρ2 fun b ρ3 => (b = true → EB X scope elt ρ3 fun d ρ4 => J (i + 1) (acc ++ [d]) (wipeD ρ4 (own.map (·.2)))) ∧ (b = false → J (i + 1) acc (wipeD ρ3 (own.map (·.2))))) ∧
      ∀ acc ρn, J xs.length acc ρn → D.nx ((backD ρ1 ρn (own.map (·.2))).set i (if o1 = true then .ow (.lst acc) else .pd (.list acc)))) (hs : ∀ x, foldedSetIterable iter X.env x = pure x := by intro _; rfl) :
    SW X pr (.Assign [.Name y py] (.ListComp elt [⟨tg, iter, ifs, 0⟩] scope pos) spos) ρ D := by
  refine SW.by (ps_setLc (i := i) hc hN hy hyl hsw (pi_any tg iter) ok (fun s H C cl fp => blk_pg s H C cl fp) (fun s H C cl fp => blk_pt s H C cl fp) (fun s H C cl fp => blk_pe s H C cl fp) hs) fun DD σ H ⟨Hb, ok, k, _⟩ => ?_
  have dis : ∀ j ∈ pr, j ∉ [i] := fun j hj z => hi (by simpa using (List.mem_singleton.mp z) ▸ hj)
  cases o1 with
  | true =>
    refine lc_read (P := fun o ρ' => D.nx (ρ'.set i (.ow o))) (IW.by h fun σ H R w => ?_) ⟨Hb, ok, fun p u o Hb2 H2 ρ' ok' g' l' n nb hu w z => k _ _ Hb2 H2 ((FinG.setN (ts := [i]) ok' g' l' ok n nb hu w List.mem_cons_self (l'.1 ▸ hil)).fin dis) z⟩
    exact w
  | false =>
    refine lc_read (P := fun o ρ' => D.nx (ρ'.set i (.pd o.data))) (IW.by h fun σ H R w => ?_) ⟨Hb, ok, fun p u o Hb2 H2 ρ' ok' g' l' n nb hu w z => ?_⟩
    · exact w
    · have no : ¬ Owned σ ρ' p := fun q => by
        obtain ⟨j, o', e1, e2⟩ := l'.owned q
        obtain ⟨p', u', s1, _, s3, _⟩ := ok.own e1
        rw [e2] at s1
        cases s1
        rw [n] at s3
        cases s3
      have okf := ok'.freeze hu no nb
      have gf : Grow (Owned σ ρ) Hb H (upd Hb2 p u) H2 := ⟨g'.per.trans (same_new nb), g'.keep, fun a na e k => by
        have z : a ≠ p := fun z => k (z ▸ n)
        rw [upd_ne z]
        exact g'.hid a na e k, g'.there⟩
      exact k _ _ _ H2 ((Fin.like okf gf l').trans ((FinG.set (ts := [i]) okf (w.da nb) List.mem_cons_self).fin dis)) z

/-! ### own lists -/
theorem owSet {K : PySem.W.Frag} {σ : L2.St} {H0 Hb0 Hb H : Hp} {ρ0 ρ1 : DEnv} {i : Nat} {o o' : OD} {p : Addr} {u : HO} (ok : Ok K σ Hb H ρ1) (g : Grow (Owned σ ρ0) Hb0 H0 Hb H) (l : Like ρ0 ρ1) (e : ρ1[i]? = some (.ow o)) (es : σ[i]? = some (some (.ref p))) (q : OwOk K Hb o' u) :
    Ok K σ Hb (upd H p u) (ρ1.set i (.ow o')) ∧ Grow (Owned σ ρ0) Hb0 H0 Hb (upd H p u) ∧ Like ρ0 (ρ1.set i (.ow o')) :=
  ⟨ok.write e es q, g.trans (O' := Owned σ ρ1) (Grow.write ⟨i, o, e, es⟩) fun q z => .inl (l.owned z), l.trans (Like.set e)⟩
/-- xs.append(e); hc: pe_bm of it -/
theorem sw_append {x : Str} {px apos cpos : Pos} {e : Expr} (i : Nat) {o : OD} (hc : PE X (.Call (.Attribute (.Name x px) "append" apos) [e] [] cpos) (tBM X.K "list" rAppend (tVar i) (tCons (tAny X e) tNil))) (e0 : ρ[i]? = some (.ow o))
    (h : EW X e ρ fun d ρ' => ∃ ds, ρ'[i]? = some (.ow (.lst ds)) ∧ ds.length < 16777216 ∧ D.nx (ρ'.set i (.ow (.lst (ds ++ [d])))))
    (h0 : ∃ ds, o = .lst ds := by exact ⟨_, rfl⟩) (hsw : swapsWith (.Call (.Attribute (.Name x px) "append" apos) [e] [] cpos) none pos.line X.env = pure false := by rfl) : SW X pr (.Expr (.Call (.Attribute (.Name x px) "append" apos) [e] [] cpos) pos) ρ D := by
  refine SW.by (ps_expr hc hsw) fun DD σ H ⟨Hb, ok, k, _⟩ => ?_
  obtain ⟨ds0, rfl⟩ := h0
  obtain ⟨p, u, e1, e2, e3, vs0, e4, e5⟩ := ok.own e0
  subst e4
  refine ⟨.ref p, e1, .inl ⟨rfl, _, .inl (.inl e3)⟩, h.go ok (Grow.refl _ _ _) (Like.refl _) fun w dw Hb2 H2 ρ2 ok2 g2 s2 l2 d2 ⟨ds, r1, r2, r3⟩ => ?_⟩
  obtain ⟨p', u', f1, f2, f3, vs, f4, f5⟩ := ok2.own r1
  rw [e1] at f1
  cases f1
  subst f4
  obtain ⟨a, b, c⟩ := owSet (o' := .lst (ds ++ [dw])) (u := .lst (vs ++ [w])) ok2 g2 l2 r1 e1 ⟨_, rfl, f5.append (.cons d2 .nil)⟩
  exact ⟨p, vs, w, rfl, rfl, f3, by rw [line_eq, f5.length]; exact r2, k σ _ Hb2 _ (Fin.like a b c) r3⟩
/-- xs[j] = e -/
theorem sw_setIx {x : Str} {px tpos : Pos} {j e : Expr} (i : Nat) {o : OD} (hp : PE X (.Name x px) (tVar i)) (e0 : ρ[i]? = some (.ow o))
    (h : EW X e ρ fun d ρ1 => EW X j ρ1 fun y ρ2 => ∃ ds n m, ρ2[i]? = some (.ow (.lst ds)) ∧ y = .int n ∧ ixN ds.length n = some m ∧ D.nx (ρ2.set i (.ow (.lst (ds.set m d)))))
    (ha : ∀ v, assign (.Subscript (.Name x px) j tpos) X.env v = (do
      let ov ← holding [v] (eval (.Name x px) X.env)
      let iv ← holding [v, ov] (eval j X.env)
      standAt tpos
      holding [v, ov, iv] (setItem ov iv v)
      release [v, ov, iv] []) := by intro _; rfl)
    (hs : swapsWithSole [.Subscript (.Name x px) j tpos] e pos.line X.env = pure false := by rfl) (hw : swappedStores [.Subscript (.Name x px) j tpos] e X.env = pure none := by rfl)
    (h1 : (assignEach [.Subscript (.Name x px) j tpos] X.env).map (·.2) = [assign (.Subscript (.Name x px) j tpos) X.env] := by rfl) : SW X pr (.Assign [.Subscript (.Name x px) j tpos] e pos) ρ D := by
  refine SW.by (ps_asg (pe_any e) (pg_sub hp (pe_any j) set_list ha) hs hw h1) fun DD σ H ⟨Hb, ok, k, _⟩ => ?_
  obtain ⟨p, u, e1, _⟩ := ok.own e0
  refine h.go ok (Grow.refl _ _ _) (Like.refl _) fun w dw Hb1 H1 ρ1 ok1 g1 s1 l1 d1 p1 => ?_
  refine ⟨.ref p, e1, p1.go ok1 g1 l1 fun y dy Hb2 H2 ρ2 ok2 g2 s2 l2 d2 ⟨ds, n, m, r1, r2, r3, r4⟩ => ?_⟩
  subst r2
  cases d2
  obtain ⟨p', u', f1, f2, f3, vs, f4, f5⟩ := ok2.own r1
  rw [e1] at f1
  cases f1
  subst f4
  obtain ⟨a, b, c⟩ := owSet (o' := .lst (ds.set m dw)) (u := .lst (vs.set m w)) ok2 g2 l2 r1 e1 ⟨_, rfl, f5.set (d1.mono (same_rd s2)) m⟩
  exact ⟨p, vs, n, m, rfl, rfl, f3, by rw [f5.length]; exact r3, k σ _ Hb2 _ (Fin.like a b c) r4⟩
/-- len of an own list -/
theorem ew_lenO {x l : Str} {px p2 : Pos} {Post : PyData → DEnv → Prop} (i : Nat) {ds : List PyData} (hp : PE X (.Name x px) (tVar i)) (e0 : ρ[i]? = some (.ow (.lst ds))) (hg : Gl X "len") (hm : X.mg "len" = none) (h : Post (.int ds.length) ρ)
    (he : starEach [.Name x px] X.env = (false, eval (.Name x px) X.env) :: starEach [] X.env := by rfl) (hpl : (backTo pos (starEach [] X.env)).any (·.1) = false := by rfl) : EW X (.Call (.Name "len" p2) [.Name x px] [] pos) ρ Post := by
  refine EW.by (pe_callB call_len hg hm PySem.boot_len (pa_cons hp pa_nil he) (by decide) (by decide) he hpl) fun σ H Q ⟨Hb, ok, k⟩ => ?_
  obtain ⟨p, u, e1, e2, e3, vs0, e4, e5⟩ := ok.own e0
  subst e4
  exact ⟨.ref p, e1, _, _, rfl, .inl ⟨_, .inl (.inl e3), rfl⟩, by rw [e5.length]; exact k _ _ Hb H ρ ok (Grow.refl _ _ _) (Like.refl _) (.int _) h⟩

/-! ### isinstance -/
def tyD : PyData → String
  | .none => "NoneType"
  | .bool _ => "bool"
  | .int _ => "int"
  | .str _ => "str"
  | .list _ => "list"
  | .tuple _ => "tuple"
  | .dict _ => "dict"
theorem tyX_da {K : PySem.W.Frag} {Hb H : Hp} {v : V} {d : PyData} (h : Da K Hb v d) (s : Sub Hb H) : TyX K H v (.type (tyD d)) := by
  cases h with
  | non => exact .base .non
  | bl b => exact .base (.bl b)
  | int i => exact .base (.int i)
  | str x => exact .base (.str x)
  | lst hs _ =>
    rcases hs.mono s.rd with (q | ⟨o, q⟩) | ⟨its, q, _⟩
    · exact .base (.lst q)
    · exact .base (.frz q)
    · exact .kList q rfl
  | tup hs _ =>
    rcases s.rd.t hs with (q | ⟨o, q⟩) | ⟨o, its, n, q1, q2, _⟩
    · exact .base (.tup q)
    · exact .fTuple q
    · exact .kTuple q1 q2
  | dic hs _ =>
    rcases s.rd _ _ hs with q | ⟨o, q⟩
    · exact .base (.dK q)
    · exact .fDict q
/-- which type is an instance of which -/
def isT (a T : String) : Bool := a == T || (a == "bool" && T == "int")
theorem ew_isi {e : Expr} {T : String} {tn : Str} {p q : Pos} {Post : PyData → DEnv → Prop} (hg : Gl X "isinstance") (hm : X.mg "isinstance" = none) (hgT : Gl X tn) (hmT : X.mg tn = none) (hv : bootBuiltins tn = some (.type T)) (hk : ["NoneType", "bool", "int", "str", "list", "tuple", "dict"].all (fun a => kitB a T == some (isT a T)) = true)
    (h : EW X e ρ fun d ρ' => Post (.bool (isT (tyD d) T)) ρ') (hn : tn ≠ "__name__" := by decide) (hdb : (tn == ("__debug__" : Str)) = false := by decide)
    (he : starEach [e, .Name tn q] X.env = (false, eval e X.env) :: starEach [.Name tn q] X.env := by rfl) (he2 : starEach [.Name tn q] X.env = (false, eval (.Name tn q) X.env) :: starEach [] X.env := by rfl) (hpl : (backTo pos (starEach [.Name tn q] X.env)).any (·.1) = false := by rfl) : EW X (.Call (.Name "isinstance" p) [e, .Name tn q] [] pos) ρ Post := by
  refine EW.by (pe_callB call_isi hg hm (by decide +kernel) (pa_cons (pe_any e) (pa_cons (pe_bltn (v := .ty T) hgT hmT hv rfl hn hdb) pa_nil he2) he) (by decide) (by decide) he hpl) fun σ H Q ⟨Hb, ok, k⟩ => ?_
  refine h.go ok (Grow.refl _ _ _) (Like.refl _) fun v d Hb1 H1 ρ1 ok1 g1 _ l1 d1 p1 => ?_
  refine ⟨v, .ty T, .type (tyD d), .type T, isT (tyD d) T, rfl, .ty T, tyX_da d1 ok1.sub, kit_ty ?_, (fin0 k ok1 g1 l1).val ok1.sub (.bl _) p1⟩
  have a := List.all_eq_true.mp hk (tyD d) (by cases d <;> simp [tyD])
  simpa using a

/-! ### f-strings: texts and ints -/
def FmtW (d : PyData) (P : PyData → Prop) : Prop := match d with
  | .str y => y.length ≤ 16777216 ∧ P (.str y)
  | .int i => i.natAbs.log2 < 1920 ∧ P (.str (toString i))
  | _ => False
theorem ew_fmt {e : Expr} {Post : PyData → DEnv → Prop} (h : EW X e ρ fun d ρ' => FmtW d fun r => Post r ρ') : EW X (.FormattedValue e (-1) none pos) ρ Post := by
  refine EW.by (pe_fmt (pe_any e)) fun σ H Q ⟨Hb, ok, k⟩ => ?_
  refine h.go ok (Grow.refl _ _ _) (Like.refl _) fun v d Hb1 H1 ρ1 ok1 g1 _ l1 d1 p1 => ?_
  have r := fin0 k ok1 g1 l1
  cases d1 with
  | str y => exact .inl ⟨y, rfl, by rw [line_eq]; exact p1.1, r.val ok1.sub (.str _) p1.2⟩
  | int i => exact .inr ⟨i, rfl, p1.1, r.val ok1.sub (.str _) p1.2⟩
  | _ => exact (show False from p1).elim
/-- the parts one behind the other -/
def JW (X : Cx) : List Expr → Str → DEnv → (Str → DEnv → Prop) → Prop
  | [], acc, ρ, P => P acc ρ
  | e :: es, acc, ρ, P => EW X e ρ fun d ρ' => ∃ y : Str, d = .str y ∧ (acc ++ y).length ≤ 16777216 ∧ JW X es (acc ++ y) ρ' P
theorem pj_any : ∀ es : List Expr, PJ X es (es.map (tAny X))
  | [] => .nil
  | e :: es => .cons (pe_any e) (pj_any es)
theorem jw_go : ∀ (es : List Expr) (acc : Str) {P : Str → DEnv → Prop} {σ : L2.St} {H : Hp} {Q : Str → Hp → Prop} {ρ0 ρ : DEnv} {Hb0 H0 Hb : Hp}, JW X es acc ρ P → Ok X.K σ Hb H ρ → Grow (Owned σ ρ0) Hb0 H0 Hb H → Like ρ0 ρ →
    (∀ z Hb2 H2 ρ', Ok X.K σ Hb2 H2 ρ' → Grow (Owned σ ρ0) Hb0 H0 Hb2 H2 → Like ρ0 ρ' → P z ρ' → Q z H2) → tJs (es.map (tAny X)) acc σ H Q
  | [], acc, P, σ, H, Q, ρ0, ρ, Hb0, H0, Hb, h, ok, g, l, k => k acc Hb H ρ ok g l h
  | e :: es, acc, P, σ, H, Q, ρ0, ρ, Hb0, H0, Hb, h, ok, g, l, k => by
    have h : EW X e ρ fun d ρ' => ∃ y : Str, d = .str y ∧ (acc ++ y).length ≤ 16777216 ∧ JW X es (acc ++ y) ρ' P := h
    refine h.go ok g l fun v d Hb1 H1 ρ1 ok1 g1 _ l1 d1 ⟨y, ey, hz, p1⟩ => ?_
    subst ey
    cases d1
    exact ⟨y, rfl, by rw [line_eq]; exact hz, jw_go es (acc ++ y) p1 ok1 g1 l1 k⟩
theorem ew_joined {v1 v2 : Expr} {rest : List Expr} {Post : PyData → DEnv → Prop} (h : JW X (v1 :: v2 :: rest) Str.empty ρ fun z ρ' => Post (.str z) ρ') : EW X (.JoinedStr (v1 :: v2 :: rest) pos) ρ Post :=
  EW.by (pe_joined (pj_any _)) fun σ H Q ⟨Hb, ok, k⟩ => jw_go _ _ h ok (Grow.refl _ _ _) (Like.refl _) fun z Hb2 H2 ρ' ok2 g2 l2 p => k _ _ Hb2 H2 ρ' ok2 g2 l2 (.str z) p
theorem ew_joined1 {e : Expr} {Post : PyData → DEnv → Prop} (h : EW X e ρ Post) : EW X (.JoinedStr [e] pos) ρ Post := EW.by (pe_joined1 h) fun _ _ _ q => q

/-! ### methods of texts -/
def MetD (X : Cx) (id : String) (g : PyData → GA) : Prop := ∃ r : V → List V → Hp → VK → Prop, MtR X id r ∧ ∀ Hb H x xs d ds (P : PyData → Prop) (Q : VK), Da X.K Hb x d → DaAll X.K Hb xs ds → Sub Hb H → g d ds P → Ret X.K Hb H P Q → r x xs H Q
theorem ew_m1 {id : String} {name : Str} {o e : Expr} {apos : Pos} {g : PyData → GA} {Post : PyData → DEnv → Prop} (slot : Slot "str" name id) (ty : typeOf (.builtin id) = pure (.type "method_descriptor")) (hm : MetD X id g) (h : EW X o ρ fun d ρ1 => (∃ s, d = .str s) ∧ EW X e ρ1 fun y ρ2 => g d [y] fun r => Post r ρ2)
    (hs : starEach [e] X.env = [(false, eval e X.env)] := by rfl) (hbase : attributeBase o name X.env (eval o X.env) = eval o X.env := by rfl) (hline : (apos.endLine == pos.line) = true := by rfl) : EW X (.Call (.Attribute o name apos) [e] [] pos) ρ Post := by
  obtain ⟨r, rule, q⟩ := hm
  refine EW.by (pe_m1 slot ty rule (pe_any o) (pe_any e) hs hbase hline) fun σ H Q ⟨Hb, ok, k⟩ => ?_
  refine h.go ok (Grow.refl _ _ _) (Like.refl _) fun v d Hb1 H1 ρ1 ok1 g1 _ l1 d1 ⟨⟨s, e1⟩, p1⟩ => ?_
  subst e1
  cases d1
  refine ⟨⟨s, rfl⟩, p1.go ok1 g1 l1 fun w dw Hb2 H2 ρ2 ok2 g2 s2 l2 d2 p2 => ?_⟩
  exact q Hb2 H2 _ _ _ _ _ Q (.str s) (.cons d2 .nil) ok2.sub p2 (fin0 k ok2 g2 l2)
theorem da_strs {K : PySem.W.Frag} {Hb : Hp} : ∀ {ys : List Str} {vs : List V}, DaAll K Hb vs (ys.map .str) → vs = ys.map V.str
  | [], _, h => by
    cases h
    rfl
  | b :: bs, _, h => by
    cases h with
    | cons h1 t =>
      cases h1
      rw [da_strs t]
      rfl
theorem da_ofStrs {K : PySem.W.Frag} {Hb : Hp} : ∀ (ys : List Str), DaAll K Hb (ys.map V.str) (ys.map .str)
  | [] => .nil
  | _ :: ys => .cons (.str _) (da_ofStrs ys)
def JoinW : PyData → GA
  | .str a, [.list xs], P => ∃ ys : List Str, xs = ys.map .str ∧ (ys.map (·.length)).sum + ys.length * a.length ≤ 16777216 ∧ P (.str (Txt.join a ys))
  | .str a, [.tuple xs], P => ∃ ys : List Str, xs = ys.map .str ∧ (ys.map (·.length)).sum + ys.length * a.length ≤ 16777216 ∧ P (.str (Txt.join a ys))
  | _, _, _ => False
theorem md_join : MetD X "str.join" JoinW := by
  refine ⟨_, mt_join, fun Hb H x xs d ds P Q a b s g k => ?_⟩
  cases a with
  | str z =>
    cases b with
    | nil => exact (show False from g).elim
    | cons h1 t =>
      cases t with
      | cons h2 t => cases h1 <;> exact (show False from g).elim
      | nil =>
        cases h1 with
        | lst hs ha =>
          obtain ⟨ys, e, hz, p⟩ := g
          subst e
          have e2 := da_strs ha
          subst e2
          exact ⟨z, _, ys, rfl, rfl, .inl ((hs.mono s.rd).sq), hz, k.val s (.str _) p⟩
        | tup hs ha =>
          obtain ⟨ys, e, hz, p⟩ := g
          subst e
          have e2 := da_strs ha
          subst e2
          exact ⟨z, _, ys, rfl, rfl, .inr (s.rd.t hs), hz, k.val s (.str _) p⟩
        | _ => exact (show False from g).elim
  | _ => cases b <;> exact (show False from g).elim
def SplitW : PyData → GA
  | .str a, [.str b], P => (b.length == 0) = false ∧ a.length + 2 ≤ 16777216 ∧ P (.list ((Txt.split a b).map .str))
  | _, _, _ => False
theorem md_split : MetD X "str.split" SplitW := by
  refine ⟨_, mt_split, fun Hb H x xs d ds P Q a b s g k => ?_⟩
  cases a with
  | str z =>
    cases b with
    | nil => exact (show False from g).elim
    | cons h1 t =>
      cases t with
      | cons h2 t => cases h1 <;> exact (show False from g).elim
      | nil =>
        cases h1 with
        | str y => exact ⟨z, y, rfl, rfl, g.1, by rw [line_eq]; exact g.2.1, fun p hp => k.lst s hp (da_ofStrs _) g.2.2⟩
        | _ => exact (show False from g).elim
  | _ => cases b <;> exact (show False from g).elim
end

/-! ### a def's promise -/
/-- all arguments data: W ds post tells that the call with ds comes to data of which post holds -/
def SpP (K : PySem.W.Frag) (W : GA) : Sp := fun vs H Q _ => ∃ Hb ds P, Sub Hb H ∧ DaAll K Hb vs ds ∧ W ds P ∧ Ret K Hb H P Q
/-- the first argument a list that the def may change, bs what it holds -/
abbrev GAB := List PyData → List PyData → (PyData → List PyData → Prop) → Prop
def SpB (K : PySem.W.Frag) (W : GAB) : Sp := fun vs H Q _ => ∃ Hb p us ws bs ds P, vs = .ref p :: ws ∧ Sub Hb H ∧ Hb p = none ∧ H p = some (.lst us) ∧ DaAll K Hb us bs ∧ DaAll K Hb ws ds ∧ W bs ds P ∧
  ∀ v d us' bs' Hb2 H2, Sub Hb2 H2 → Grow (fun a => a = p) Hb H Hb2 H2 → Hb2 p = none → H2 p = some (.lst us') → DaAll K Hb2 us' bs' → Da K Hb2 v d → P d bs' → Q v H2
/-- the slots at a def's entry -/
def uns (n : Nat) : DEnv := List.replicate n .un
theorem ok_start {K : PySem.W.Frag} {N : List Str} {vs : List V} {ds : List PyData} {Hb H : Hp} (s : Sub Hb H) (h : DaAll K Hb vs ds) (hl : vs.length ≤ N.length) : Ok K (L2.start N vs) Hb H (ds.map .pd ++ uns (N.length - ds.length)) := by
  have el := h.length
  have no : ∀ (i : Nat) (o : OD), (ds.map Sl.pd ++ uns (N.length - ds.length))[i]? ≠ some (.ow o) := fun i o e => by
    have m := List.mem_of_getElem? e
    rcases List.mem_append.mp m with m | m
    · obtain ⟨d, _, q⟩ := List.mem_map.mp m
      cases q
    · cases (List.mem_replicate.mp m).2
  refine ⟨by simp [L2.start, uns]; omega, s, fun i x e => ?_, fun i j o o' p ei => absurd ei (no i o)⟩
  cases x with
  | un => trivial
  | ow o => exact absurd e (no i o)
  | pd d =>
    have hi : i < ds.length := by
      by_cases hi : i < ds.length
      · exact hi
      · rw [List.getElem?_append_right (by simpa using hi)] at e
        have m := List.mem_of_getElem? e
        cases (List.mem_replicate.mp m).2
    rw [List.getElem?_append_left (by simpa using hi), List.getElem?_map] at e
    cases q : ds[i]? with
    | none =>
      rw [q] at e
      cases e
    | some d' =>
      rw [q] at e
      cases e
      obtain ⟨v, e1, e2⟩ := h.getD q
      refine ⟨v, ?_, e2⟩
      unfold L2.start
      rw [List.getElem?_append_left (by simpa [el] using hi), List.getElem?_map, e1]
      rfl
section
variable {P : Program} {w : World} {K : PySem.W.Frag} {mg : Str → Option Value} {base : Heap}
abbrev DCx (P : Program) (w : World) (K : PySem.W.Frag) (mg : Str → Option Value) (base : Heap) (N : List Str) (qual : Str) (sc : Scope) (f : Addr) (cdv : Value) (A : Around) (outer : List Env) (s : Shared) (H : Hp) (E : XK) : Cx := (cxOf CX0 P w K mg base N qual sc f cdv A outer s H E).nox
/-- behind a call that was given the own list of slot i -/
theorem own_call {K : PySem.W.Frag} {σ : L2.St} {ρ1 : DEnv} {Hb1 H1 Hb2 H2 : Hp} {i : Nat} {o : OD} {q : Addr} {us' : List V} {bs' : List PyData} (ok1 : Ok K σ Hb1 H1 ρ1) (e2 : ρ1[i]? = some (.ow o)) (e1 : σ[i]? = some (some (.ref q))) (s2 : Sub Hb2 H2) (g2 : Grow (fun a => a = q) Hb1 H1 Hb2 H2) (n2 : Hb2 q = none) (h2 : H2 q = some (.lst us')) (da : DaAll K Hb2 us' bs') :
    Ok K σ Hb2 H2 (ρ1.set i (.ow (.lst bs'))) ∧ Owned σ ρ1 q := by
  have hl := (List.getElem?_eq_some_iff.mp e2).1
  have own1 : ∀ (j : Nat) (o' : OD), ρ1[j]? = some (.ow o') → σ[j]? = some (some (.ref q)) → j = i := fun j o' a b => ok1.ap j i o' _ q a e2 b e1
  refine ⟨⟨by rw [List.length_set]; exact ok1.len, s2, fun j s e => ?_, fun j m o1 o2 r ej em sj sm => ?_⟩, i, o, e2, e1⟩
  · by_cases n : i = j
    · subst n
      rw [List.getElem?_set_self hl] at e
      cases e
      exact ⟨q, _, e1, n2, h2, us', rfl, da⟩
    · rw [List.getElem?_set_ne n] at e
      have w := ok1.sl j s e
      cases s with
      | un => trivial
      | pd d =>
        obtain ⟨v, a, b⟩ := w
        exact ⟨v, a, b.mono (same_rd g2.per)⟩
      | ow o' =>
        obtain ⟨r, x, a, b, c, d⟩ := w
        have nr : r ≠ q := fun z => n (own1 j o' e (z ▸ a)).symm
        exact ⟨r, x, a, g2.hid r nr b (by rw [c]; simp), g2.keep r x c nr, d.mono (same_rd g2.per)⟩
  · have back : ∀ (m : Nat) (o3 : OD), (ρ1.set i (.ow (.lst bs')))[m]? = some (.ow o3) → ∃ o4, ρ1[m]? = some (.ow o4) := fun m o3 em => (Like.set (o' := .lst bs') e2).ow em
    obtain ⟨_, a⟩ := back j o1 ej
    obtain ⟨_, b⟩ := back m o2 em
    exact ok1.ap j m _ _ r a b sj sm
end
end DL

/-! The data layer: promises that may lean on it that no repr is under way (so repr of lists and tuples within is what it is). -/
namespace DL
open PySem PySem.Spec PyProof.Rows L2
section
variable (P : Program) (w : World) (K : PySem.W.Frag) (mg : Str → Option Value) (base : Heap)
/-- a def keeps sp wherever no repr is under way -/
structure FnG (k : Nat) (f : Addr) (fd : FuncData) (ps : List Str) (sp : Sp) : Prop where
  long : ∀ vs H Q E, sp vs H Q E → vs.length = ps.length
  runs : ∀ A outer s H args us vs Q E, Room k A → A.guards = some [] → Env0 P w K mg base A outer s H → BindsTo s fd args (ps.zip us) → Vals vs us →
    sp vs H Q E → codeAny (model P w) A (.call (.ref f) args) (CR CX0 outer P w H s Q E) s
end
section
variable {P : Program} {w : World} {K : PySem.W.Frag} {mg : Str → Option Value} {base : Heap} {j k : Nat} {f : Addr} {fd : FuncData} {ps : List Str} {sp : Sp}
theorem FnG.mono (F : FnG P w K mg base j f fd ps sp) (h : j ≤ k) : FnG P w K mg base k f fd ps sp :=
  ⟨F.long, fun A o s H a us vs Q E r => F.runs A o s H a us vs Q E (r.mono h)⟩
theorem guards_deeper {A : Around} {env : Env} (h : A.guards = some []) : (A.deeper env).guards = some [] := h
/-- a def by its body, as L2.fn_of; what a repr under way would change is known away -/
theorem fnG_of {x qual : Str} {st : Stmt} {N : List Str} (F : Fun K x qual st f fd) (S : FnScope N ps (defScope st)) (long : ∀ vs H Q E, sp vs H Q E → vs.length = ps.length)
    (hb : ∀ (cdv : Value) (A : Around) (outer : List Env) (s : Shared) (H : Hp) (vs : List V) (Q : VK) (E : XK), Room k (A.deeper (envOfC qual (defScope st) s.heap.objs.size f cdv)) → (A.deeper (envOfC qual (defScope st) s.heap.objs.size f cdv)).guards = some [] → sp vs H Q E →
      ∃ t, PSs (DCx P w K mg base N qual (defScope st) f cdv A outer s H E) (defBody st) t ∧ t { nx := fun _ H' => Q .non H', rt := Q } (L2.start N vs) H) : FnG P w K mg base (k + 1) f fd ps sp where
  long := long
  runs A outer s H args us vs Q E hr hg e0 bt rv q := by
    obtain ⟨oc, od, kV, doc, pm, an, cdv, ct, osl, efd, lk, hcd⟩ := F.ex
    rw [efd] at lk bt
    have kp : ∀ b o, base.get? b = some o → s.heap.get? b = some o := fun b o e => (e0.bs b o e).1
    have cells : ∀ y ∈ ps.zip us, (defScope st).names.lookup y.1 = some .local ∨ ((defScope st).names.lookup y.1 = some .cell ∧ ((cellsFrom (s.heap.objs.size + 1) (defScope st).names []).lookup y.1).isSome = true) := fun y hy =>
      (S.par y.1 (List.of_mem_zip (show (y.1, y.2) ∈ ps.zip us from hy)).1).imp (fun z => z) fun z => ⟨z, PySem.W.cellsFrom_some _ _ _ (.inl z)⟩
    have KX := e0.mod.kin.keeps kp
    refine codeAny_call_function hr.depth (KX f _ lk) rfl S.co S.gen rfl (PySem.W.codeRec_of KX hcd) (bt _ _ _ _ (wpAny_newFunctionEnv_cells S.kind cells fun env he s1 x => ?_))
    subst he
    refine ⟨(e0.mod.nolimit.keeps kp).keeps x.toInCall.keep, codeAny_func ?_⟩
    obtain ⟨t, ht, hq⟩ := hb cdv A outer s H vs Q E (hr.deeper _) (guards_deeper hg) q
    have I := inv_start (CX := CX0) (f := f) (cd := cdv) (E := E) (qual := qual) S hr.hd e0 (long vs H Q E q) rv x
    have out : ∀ {σ' : L2.St} {H' : Hp} {v : V} {u : Value} {s' : Shared}, Inv (cxOf CX0 P w K mg base N qual (defScope st) f cdv A outer s H E) [] σ' H' s' → RelV v u → Q v H' → CE outer P w H s Q u s' :=
      fun J ru z => ⟨_, _, J.os, J.bare, J.base, J.hok, ru, z⟩
    refine wpAny_mono (ht.nox.run [] s1 (L2.start N vs) H _ I hq) (fun fl s' hs => ?_) fun _ _ z => z
    cases fl with
    | next => obtain ⟨_, _, J, z⟩ := hs; exact out (v := .non) (u := .none) J rfl z
    | ret u => obtain ⟨_, _, _, J, ru, z⟩ := hs; exact out J ru z
    | brk => obtain ⟨_, _, _, z⟩ := hs; exact (show False from z).elim
    | cont => obtain ⟨_, _, _, z⟩ := hs; exact (show False from z).elim
end
section
variable {X : Cx} {k : Nat} {f : Addr} {fd : FuncData} {ps : List Str} {sp : Sp} {x : Str} {p pos : Pos} {e : Expr} {es : List Expr} {ta : TA}
/-- a call of such a def -/
theorem pe_callG (F : FnG X.prog X.w X.K X.mg X.base k f fd ps sp) (hr : Room k X.A) (hgd : X.A.guards = some []) (hg : Gl X x) (hm : X.mg x = some (.ref f)) (hk : PySem.W.keepIn X.K (.ref f) = true) (hb : Binds X.K fd ps [])
    (ha : PA X (e :: es) ta) (hdb : (x == ("__debug__" : Str)) = false) (he : starEach (e :: es) X.env = (false, eval e X.env) :: starEach es X.env) (hpl : (backTo pos (starEach es X.env)).any (·.1) = false) : PE X (.Call (.Name x p) (e :: es) [] pos) (tCall sp [] E0 ta) := by
  constructor
  intro pins s σ H Q I h
  refine wpAny_Call_Name_kw (ld_glob I hg hm (PySem.W.callWith_K (h₀ := X.base) I.ok.mod.kin hk (thn (ha.run pos pins s σ H _ I h) fun us s1 z => ?_) he hpl) hdb)
  obtain ⟨vs, H1, I1, r, q⟩ := z
  rw [List.append_nil] at q
  have el : us.length = ps.length := by rw [← r.length, F.long _ _ _ _ q]
  have bt := hb s1 us I1.kIn (by rw [List.append_nil]; exact el)
  rw [List.append_nil] at bt
  refine ⟨I1.kIn, wpAny_call (codeAny_mono (F.runs X.A X.stack s1 H1 ⟨us, []⟩ us vs Q E0 hr hgd I1.env0 bt r q) fun rs s' c => ?_)⟩
  match rs, c with
  | .ok (.ret u), c => exact I1.after c
  | .ok .next, c => exact (show False from c).elim
  | .ok .brk, c => exact (show False from c).elim
  | .ok .cont, c => exact (show False from c).elim
  | .error e, c => exact (show False from c).elim
end
/-! ### the law's own call -/
section
variable {P : Program} {w : World} {K : PySem.W.Frag} {mg mb : Str → Option Value} {k : Nat} {fa a : Addr} {fd : FuncData} {x : Str} {sp : Sp} {s1 : Shared} {vs : List Value} {ns : List Int}
/-- the law's call over an abstract heap in which the script alone may stand, locked -/
theorem lawG_core {H : Hp} (KX : K.In s1.heap) (hns : s1.heap.Ns mainGlobals mg) (hbn : s1.heap.Ns builtinsNs mb) (hbb : ∀ y : Str, y ≠ "__name__" → mb y = bootBuiltins y) (hlim : s1.heap.NoLimit) (hgn : s1.gens = #[]) (hr : Room k callerA)
    (F : ∀ base : Heap, K.In base → base.Ns mainGlobals mg → FnG P w K mg base k fa fd [x] sp) (hbind : ∀ (s : Shared) (u : Value), BindsTo s fd ⟨[u], []⟩ [(x, u)])
    (hq : sp [.ref a] H (fun v _ => v = .bl true) fun _ _ _ => False) (hO : Only H) (hok : HOk P w H s1.heap) (free : ∀ b o, s1.heap.get? b = some o → ((∃ es ep, o.data = .dict es ep) ∨ K.lookup b = some o) → H b = none) :
    codeAny (model P w) callerA (.call (.ref fa) ⟨[.ref a], []⟩) (fun r s' => r = .ok (.ret (.bool true)) ∧ OldK s1.heap s'.heap ∧ s'.os = s1.os ∧ AllBare s'.gens) s1 := by
  have ns2 : ∀ {b : Addr} {m : Str → Option Value}, s1.heap.Ns b m → (hidT s1.heap H).Ns b m := fun z => by
    obtain ⟨o, es, ep, e, d, r⟩ := z
    exact ⟨o, es, ep, hidT_get e (free _ o e (.inl ⟨es, ep, d⟩)), d, r⟩
  have K2 : K.In (hidT s1.heap H) := fun b o e => hidT_get (KX b o e) (free b o (KX b o e) (.inr e))
  have M2 : Mod K mg (hidT s1.heap H) := by
    obtain ⟨mc, h1, h2⟩ := hlim
    exact ⟨K2, ns2 hns, ⟨mb, ns2 hbn, hbb⟩, mc, ns2 h1, h2⟩
  have e0 : Env0 P w K mg (hidT s1.heap H) callerA [] s1 H := by
    refine ⟨rfl, M2, fun b o e => of_hidT e, Nat.le_of_eq (hidT_size _ _), trivial, fun b z => ?_, hok, .of_eq hgn⟩
    cases (show b ∈ ([] : List Addr) from z)
  refine codeAny_mono ((F _ K2 (ns2 hns)).runs callerA [] s1 H ⟨[.ref a], []⟩ [.ref a] [.ref a] _ _ hr rfl e0 (hbind s1 (.ref a)) (.cons rfl .nil) hq) fun r s' c => ?_
  match r, c with
  | .ok .next, c => exact (show False from c).elim
  | .ok .brk, c => exact (show False from c).elim
  | .ok .cont, c => exact (show False from c).elim
  | .error e, c => exact (show False from c).elim
  | .ok (.ret u), c =>
    obtain ⟨v, H2, os, bare, un, ok2, ru, ev⟩ := c
    have ev : v = .bl true := ev
    rw [ev] at ru
    have eu : u = .bool true := ru
    refine ⟨by rw [eu], OldK.of_keep fun b o e => ?_, os, bare⟩
    rcases hO b with z | ⟨ob, xs, z⟩
    · refine un.keep b o e z (fun m => ?_) (fun m => ?_)
      · cases (show b ∈ ([] : List Addr) from m)
      · cases m
    · have f1 := (hok b _ z).1
      rw [f1] at e
      cases e
      exact (ok2 b _ (un.frzs b _ _ z)).1
theorem lawG (KX : K.In s1.heap) (hns : s1.heap.Ns mainGlobals mg) (hbn : s1.heap.Ns builtinsNs mb) (hbb : ∀ y : Str, y ≠ "__name__" → mb y = bootBuiltins y) (hlim : s1.heap.NoLimit) (hgn : s1.gens = #[])
    (ha : s1.heap.get? a = some { cls := .type "list", data := .seq vs.toArray }) (hi : IntsAre vs ns) (hl : ns.length ≤ sizeLine) (hr : Room k callerA)
    (F : ∀ base : Heap, K.In base → base.Ns mainGlobals mg → FnG P w K mg base k fa fd [x] sp) (hbind : ∀ (s : Shared) (u : Value), BindsTo s fd ⟨[u], []⟩ [(x, u)])
    (hsp : ∀ H : Hp, Only H → RlK K H a (ns.map V.int) → sp [.ref a] H (fun v _ => v = .bl true) fun _ _ _ => False) :
    codeAny (model P w) callerA (.call (.ref fa) ⟨[.ref a], []⟩) (fun r s' => r = .ok (.ret (.bool true)) ∧ OldK s1.heap s'.heap ∧ s'.os = s1.os ∧ AllBare s'.gens) s1 := by
  have long : (ns.map V.int).length ≤ sizeLine := by
    rw [List.length_map]
    exact hl
  let ob : Obj := { cls := .type "list", data := .seq vs.toArray }
  cases hk : K.lookup a with
  | some o =>
    have eo := KX a o hk
    rw [ha] at eo
    cases eo
    let H : Hp := fun _ => none
    refine lawG_core (H := H) KX hns hbn hbb hlim hgn hr F hbind (hsp H (fun _ => .inl rfl) (.inr ⟨vs, hk, long, vals_ints hi⟩)) (fun _ => .inl rfl) (fun b u z => ?_) fun _ _ _ _ => rfl
    cases z
  | none =>
    let H : Hp := fun b => if b = a then some (.frz ob (.lst (ns.map V.int))) else none
    have at_a : H a = some (.frz ob (.lst (ns.map V.int))) := if_pos rfl
    have off : ∀ b, b ≠ a → H b = none := fun b n => if_neg n
    have only : Only H := fun b => by
      by_cases n : b = a
      · exact .inr ⟨ob, _, by rw [n]; exact at_a⟩
      · exact .inl (off b n)
    refine lawG_core (H := H) KX hns hbn hbb hlim hgn hr F hbind (hsp H only (.inl (.inr ⟨ob, at_a⟩))) only (fun b u z => ?_) fun b o e z => ?_
    · by_cases n : b = a
      · rw [n, at_a] at z
        cases z
        rw [n]
        exact ⟨ha, long, vs, 0, vals_ints hi, ha⟩
      · rw [off b n] at z
        cases z
    · refine off b fun n => ?_
      rw [n] at e z
      rw [ha] at e
      rcases z with ⟨es, ep, d⟩ | z
      · cases e
        cases d
      · rw [hk] at z
        cases z
end
/-- the goal that the head leaves -/
theorem walkG {l : PySem.W.OpenLaw} {n k : Nat} {q : Program} {loose : List Str} {XP : (Str → Option Value) → Heap → Prop} {YP : World → Heap → Prop} {d : DefRec} {K : Params → PySem.W.Frag} {sp : World → Sp} {x : Str}
    (hn : l.most = some n) (hn2 : n ≤ sizeLine) (hdf : d.params.defaults = []) (hr : Room k callerA) (hY : ∀ (w : World) (h : Heap), YP w h → (K w.params).In h)
    (F : ∀ (w : World) (mg : Str → Option Value) (fa : Addr) (h : Heap), (K w.params).In h → h.Ns mainGlobals mg → mg d.name = some (.ref fa) → ∃ fd : FuncData, (∀ (s : Shared) (u : Value), BindsTo s fd ⟨[u], []⟩ [(x, u)]) ∧
      ∀ base : Heap, (K w.params).In base → base.Ns mainGlobals mg → FnG l.prog w (K w.params) mg base k fa fd [x] (sp w))
    (hsp : ∀ (w : World) (H : Hp) (a : Addr) (ns : List Int), ns.length ≤ n → Only H → RlK (K w.params) H a (ns.map V.int) → sp w [.ref a] H (fun v _ => v = .bl true) fun _ _ _ => False) :
    PySem.W.WalkO q loose XP YP l.row.toRowW d [] (fun f vs => PySem.call f vs) := by
  refine Att.attach_call hn hdf fun w s₀ s₁ mg mb fa o pm cd doc a vs ns G Y ho hd hcd hmg hobj hints hlen hg => ?_
  have KX := hY w _ Y
  obtain ⟨fd, hb, hF⟩ := F w mg fa _ KX G.T.g hmg
  exact lawG KX G.T.g G.T.b G.T.builtins G.T.nolimit hg hobj hints (Nat.le_trans hlen hn2) hr hF hb fun H hO hS => hsp w H a ns hlen hO hS

/-! ### promises by data, over FnG -/
section
variable {P : Program} {w : World} {K : PySem.W.Frag} {mg : Str → Option Value} {base : Heap}
theorem list_ne_ow {ds : List PyData} {n : Nat} (i : Nat) (o : OD) : (ds.map Sl.pd ++ uns n)[i]? ≠ some (.ow o) := fun e => by
  rcases List.mem_append.mp (List.mem_of_getElem? e) with m | m
  · obtain ⟨d, _, q⟩ := List.mem_map.mp m
    cases q
  · cases (List.mem_replicate.mp m).2
/-- a def that changes nothing of its caller's -/
theorem fg_pure {x qual : Str} {st : Stmt} {f : Addr} {fd : FuncData} {N ps : List Str} {k : Nat} {W : GA} (F : Fun K x qual st f fd) (S : FnScope N ps (defScope st)) (len : ∀ ds post, W ds post → ds.length = ps.length)
    (hbody : ∀ (cdv : Value) (A : Around) (outer : List Env) (s : Shared) (H : Hp) (E : XK) (ds : List PyData) (post : PyData → Prop), Room k (A.deeper (envOfC qual (defScope st) s.heap.objs.size f cdv)) → (A.deeper (envOfC qual (defScope st) s.heap.objs.size f cdv)).guards = some [] → W ds post →
      SsW (DCx P w K mg base N qual (defScope st) f cdv A outer s H E) [] (defBody st) (ds.map .pd ++ uns (N.length - ds.length)) { nx := fun _ => post .none, rt := fun d _ => post d }) : FnG P w K mg base (k + 1) f fd ps (SpP K W) := by
  refine fnG_of F S (fun vs H Q E z => ?_) fun cdv A outer s H vs Q E hr hg z => ?_
  · obtain ⟨Hb, ds, R, _, h, q, _⟩ := z
    exact h.length.trans (len ds _ q)
  · obtain ⟨Hb, ds, R, sb, h, q, r⟩ := z
    refine ⟨_, hbody cdv A outer s H E ds R hr hg q, ?_⟩
    have hpl : ps.length ≤ N.length := by
      have := congrArg List.length S.pre
      rw [List.length_take] at this
      omega
    have no : ∀ p, ¬ Owned (L2.start N vs) (ds.map Sl.pd ++ uns (N.length - ds.length)) p := fun p ⟨i, o, e, _⟩ => list_ne_ow i o e
    refine ⟨Hb, ok_start sb h (by rw [h.length, len ds _ q]; exact hpl), fun σ' ρ' Hb2 H2 f z => ?_, fun v r' σ' ρ' Hb2 H2 f dv z => ?_, fun _ _ _ _ _ z => z, fun _ _ _ _ _ z => z⟩
    · exact r .non .none Hb2 H2 f.ok.sub (f.gr.wide no) .non z
    · cases r' with
      | d d => exact r v d Hb2 H2 f.ok.sub (f.gr.wide no) dv z
      | o o => exact (show False from z).elim
/-- a def that returns a new own object -/
abbrev GN := List PyData → (OD → Prop) → Prop
def SpN (K : PySem.W.Frag) (W : GN) : Sp := fun vs H Q _ => ∃ Hb ds P, Sub Hb H ∧ DaAll K Hb vs ds ∧ W ds P ∧
  ∀ p u o Hb2 H2, Sub Hb2 H2 → Grow N0 Hb H Hb2 H2 → H p = none → Hb2 p = none → H2 p = some u → OwOk K Hb2 o u → P o → Q (.ref p) H2
theorem fg_new {x qual : Str} {st : Stmt} {f : Addr} {fd : FuncData} {N ps : List Str} {k : Nat} {W : GN} (F : Fun K x qual st f fd) (S : FnScope N ps (defScope st)) (len : ∀ ds post, W ds post → ds.length = ps.length)
    (hbody : ∀ (cdv : Value) (A : Around) (outer : List Env) (s : Shared) (H : Hp) (E : XK) (ds : List PyData) (post : OD → Prop), Room k (A.deeper (envOfC qual (defScope st) s.heap.objs.size f cdv)) → (A.deeper (envOfC qual (defScope st) s.heap.objs.size f cdv)).guards = some [] → W ds post →
      SsW (DCx P w K mg base N qual (defScope st) f cdv A outer s H E) [] (defBody st) (ds.map .pd ++ uns (N.length - ds.length)) { nx := fun _ => False, rt := fun _ _ => False, ro := fun o _ => post o }) : FnG P w K mg base (k + 1) f fd ps (SpN K W) := by
  refine fnG_of F S (fun vs H Q E z => ?_) fun cdv A outer s H vs Q E hr hg z => ?_
  · obtain ⟨Hb, ds, R, _, h, q, _⟩ := z
    exact h.length.trans (len ds _ q)
  · obtain ⟨Hb, ds, R, sb, h, q, r⟩ := z
    refine ⟨_, hbody cdv A outer s H E ds R hr hg q, ?_⟩
    have hpl : ps.length ≤ N.length := by
      have := congrArg List.length S.pre
      rw [List.length_take] at this
      omega
    have no : ∀ p, ¬ Owned (L2.start N vs) (ds.map Sl.pd ++ uns (N.length - ds.length)) p := fun p ⟨i, o, e, _⟩ => list_ne_ow i o e
    refine ⟨Hb, ok_start sb h (by rw [h.length, len ds _ q]; exact hpl), fun _ _ _ _ _ z => (show False from z).elim, fun v r' σ' ρ' Hb2 H2 f dv z => ?_, fun _ _ _ _ _ z => z, fun _ _ _ _ _ z => z⟩
    cases r' with
    | d d => exact (show False from z).elim
    | o o =>
      obtain ⟨p, u, e, w, a, b, c⟩ := dv
      subst e
      exact r p u o Hb2 H2 f.ok.sub (f.gr.wide no) (w.elim (fun w => (f.ow p w).elim (fun w => absurd w (no p)) id) id) a b c z
/-- a def whose first parameter is a list that it may change -/
theorem fg_box {x qual n0 : Str} {st : Stmt} {f : Addr} {fd : FuncData} {N ps : List Str} {k : Nat} {W : GAB} (F : Fun K x qual st f fd) (S : FnScope (n0 :: N) ps (defScope st)) (len : ∀ bs ds post, W bs ds post → ds.length + 1 = ps.length)
    (hbody : ∀ (cdv : Value) (A : Around) (outer : List Env) (s : Shared) (H : Hp) (E : XK) (bs ds : List PyData) (post : PyData → List PyData → Prop), Room k (A.deeper (envOfC qual (defScope st) s.heap.objs.size f cdv)) → (A.deeper (envOfC qual (defScope st) s.heap.objs.size f cdv)).guards = some [] → W bs ds post →
      SsW (DCx P w K mg base (n0 :: N) qual (defScope st) f cdv A outer s H E) [0] (defBody st) (.ow (.lst bs) :: (ds.map .pd ++ uns (N.length - ds.length))) { nx := fun ρ' => ∃ bs', ρ'[0]? = some (.ow (.lst bs')) ∧ post .none bs', rt := fun d ρ' => ∃ bs', ρ'[0]? = some (.ow (.lst bs')) ∧ post d bs' }) : FnG P w K mg base (k + 1) f fd ps (SpB K W) := by
  refine fnG_of F S (fun vs H Q E z => ?_) fun cdv A outer s H vs Q E hr hg z => ?_
  · obtain ⟨Hb, p, us, ws, bs, ds, R, e, _, _, _, _, h, q, _⟩ := z
    rw [e, List.length_cons, h.length]
    exact len bs ds _ q
  · obtain ⟨Hb, p, us, ws, bs, ds, R, e, sb, np, hp, hu, h, q, r⟩ := z
    subst e
    refine ⟨_, hbody cdv A outer s H E bs ds R hr hg q, ?_⟩
    have hpl : ps.length ≤ N.length + 1 := by
      have := congrArg List.length S.pre
      rw [List.length_take, List.length_cons] at this
      omega
    have hlen := len bs ds _ q
    have hst : L2.start (n0 :: N) (.ref p :: ws) = some (.ref p) :: L2.start N ws := by
      unfold L2.start
      simp
    have ok0 := ok_start (N := N) sb h (by rw [h.length]; omega)
    rw [hst]
    have ok : Ok K (some (.ref p) :: L2.start N ws) Hb H (.ow (.lst bs) :: (ds.map .pd ++ uns (N.length - ds.length))) := by
      refine ⟨by simpa using ok0.len, sb, fun i x e => ?_, fun i j o o' r ei ej _ _ => ?_⟩
      · cases i with
        | zero =>
          have e : x = .ow (.lst bs) := (Option.some.inj e).symm
          subst e
          exact ⟨p, _, rfl, np, hp, us, rfl, hu⟩
        | succ i => exact ok0.sl i x e
      · match i, j, ei, ej with
        | 0, 0, _, _ => rfl
        | 0, j + 1, _, ej => exact absurd ej (list_ne_ow j o')
        | i + 1, _, ei, _ => exact absurd ei (list_ne_ow i o)
    have own : ∀ a, Owned (some (.ref p) :: L2.start N ws) (.ow (.lst bs) :: (ds.map .pd ++ uns (N.length - ds.length))) a → a = p := fun a ⟨i, o, e, s⟩ => by
      cases i with
      | zero =>
        have s : some (some (V.ref p)) = some (some (.ref a)) := s
        cases s
        rfl
      | succ i => exact absurd e (list_ne_ow i o)
    have fin : ∀ {σ' : L2.St} {ρ' : DEnv} {Hb2 H2 : Hp} {v : V} {d : PyData}, Fin K [0] (some (.ref p) :: L2.start N ws) (.ow (.lst bs) :: (ds.map .pd ++ uns (N.length - ds.length))) Hb H σ' ρ' Hb2 H2 → Da K Hb2 v d →
        (∃ bs', ρ'[0]? = some (.ow (.lst bs')) ∧ R d bs') → Q v H2 := fun {σ' ρ' Hb2 H2 v d} f dv ⟨bs', e, z⟩ => by
      obtain ⟨p', u, e1, e2, e3, us', e4, e5⟩ := f.ok.own e
      rw [f.st 0 List.mem_cons_self] at e1
      have e1 : some (some (V.ref p)) = some (some (.ref p')) := e1
      cases e1
      subst e4
      exact r v d us' bs' Hb2 H2 f.ok.sub (f.gr.wide own) e2 e3 e5 dv z
    exact ⟨Hb, ok, fun σ' ρ' Hb2 H2 f r => fin f .non r, fun v r' σ' ρ' Hb2 H2 f dv r => (match r', dv, r with | .d d, dv, r => fin f dv r | .o _, _, r => (show False from r).elim), fun _ _ _ _ _ z => z, fun _ _ _ _ _ z => z⟩
end
section
variable {X : Cx} {ρ : DEnv} {k : Nat} {f : Addr} {fd : FuncData} {ps : List Str} {x : Str} {p pos : Pos} {e : Expr} {es : List Expr} {Post : PyData → DEnv → Prop}
theorem ew_callG {W : GA} (F : FnG X.prog X.w X.K X.mg X.base k f fd ps (SpP X.K W)) (hr : Room k X.A) (hgd : X.A.guards = some []) (hg : Gl X x) (hm : X.mg x = some (.ref f)) (hk : PySem.W.keepIn X.K (.ref f) = true) (hb : Binds X.K fd ps [])
    (h : AW X (e :: es) ρ fun ds ρ' => W ds fun d => Post d ρ') (hdb : (x == ("__debug__" : Str)) = false) (he : starEach (e :: es) X.env = (false, eval e X.env) :: starEach es X.env) (hpl : (backTo pos (starEach es X.env)).any (·.1) = false) : EW X (.Call (.Name x p) (e :: es) [] pos) ρ Post := by
  refine EW.by (pe_callG F hr hgd hg hm hk hb (pa_any (e :: es)) hdb he hpl) fun σ H Q ⟨Hb, ok, k⟩ => ?_
  refine h.go ok (Grow.refl _ _ _) (Like.refl _) fun vs ds Hb1 H1 ρ1 ok1 g1 _ l1 d1 p1 => ?_
  rw [List.append_nil]
  exact ⟨Hb1, ds, _, ok1.sub, d1, p1, fin0 k ok1 g1 l1⟩
theorem en_callG {W : GN} {PostN : OD → DEnv → Prop} (F : FnG X.prog X.w X.K X.mg X.base k f fd ps (SpN X.K W)) (hr : Room k X.A) (hgd : X.A.guards = some []) (hg : Gl X x) (hm : X.mg x = some (.ref f)) (hk : PySem.W.keepIn X.K (.ref f) = true) (hb : Binds X.K fd ps [])
    (h : AW X (e :: es) ρ fun ds ρ' => W ds fun d => PostN d ρ') (hdb : (x == ("__debug__" : Str)) = false) (he : starEach (e :: es) X.env = (false, eval e X.env) :: starEach es X.env) (hpl : (backTo pos (starEach es X.env)).any (·.1) = false) : EN X (.Call (.Name x p) (e :: es) [] pos) ρ PostN := by
  refine EN.by (pe_callG F hr hgd hg hm hk hb (pa_any (e :: es)) hdb he hpl) fun σ H Q ⟨Hb, ok, k⟩ => ?_
  refine h.go ok (Grow.refl _ _ _) (Like.refl _) fun vs ds Hb1 H1 ρ1 ok1 g1 _ l1 d1 p1 => ?_
  rw [List.append_nil]
  refine ⟨Hb1, ds, _, ok1.sub, d1, p1, fun p u o Hb2 H2 s2 g2 n nb hp w z => k p u o Hb2 H2 ρ1 (ok1.grow g2 s2) (g1.trans0 g2) l1 ?_ nb hp w z⟩
  cases e : H p with
  | none => rfl
  | some o => exact absurd n (g1.there p (by rw [e]; simp))
theorem ew_callOG {W : GAB} {xn : Str} {px : Pos} (i : Nat) {o : OD} (F : FnG X.prog X.w X.K X.mg X.base k f fd ps (SpB X.K W)) (hr : Room k X.A) (hgd : X.A.guards = some []) (hg : Gl X x) (hm : X.mg x = some (.ref f)) (hk : PySem.W.keepIn X.K (.ref f) = true) (hb : Binds X.K fd ps []) (hp : PE X (.Name xn px) (tVar i)) (e0 : ρ[i]? = some (.ow o))
    (h : AW X es ρ fun ds ρ' => ∃ bs, ρ'[i]? = some (.ow (.lst bs)) ∧ W bs ds fun d bs' => Post d (ρ'.set i (.ow (.lst bs')))) (hdb : (x == ("__debug__" : Str)) = false) (he : starEach (.Name xn px :: es) X.env = (false, eval (.Name xn px) X.env) :: starEach es X.env) (hpl : (backTo pos (starEach es X.env)).any (·.1) = false) : EW X (.Call (.Name x p) (.Name xn px :: es) [] pos) ρ Post := by
  refine EW.by (pe_callG F hr hgd hg hm hk hb (pa_cons hp (pa_any es) he) hdb he hpl) fun σ H Q ⟨Hb, ok, k⟩ => ?_
  obtain ⟨q, u, e1, _⟩ := ok.own e0
  refine ⟨.ref q, e1, h.go ok (Grow.refl _ _ _) (Like.refl _) fun vs ds Hb1 H1 ρ1 ok1 g1 _ l1 d1 ⟨bs, e2, p1⟩ => ?_⟩
  obtain ⟨q', u', f1, f2, f3, us, f4, f5⟩ := ok1.own e2
  rw [e1] at f1
  cases f1
  subst f4
  rw [List.append_nil]
  refine ⟨Hb1, q, us, vs, bs, ds, _, rfl, ok1.sub, f2, f3, f5, d1, p1, fun v d us' bs' Hb2 H2 s2 g2 n2 h2 da dv z => ?_⟩
  obtain ⟨ok2, own1⟩ := own_call ok1 e2 e1 s2 g2 n2 h2 da
  exact k v d Hb2 H2 _ ok2 (g1.trans g2 fun a z => .inl (z ▸ l1.owned own1)) (l1.trans (Like.set e2)) dv z
end
end DL

/-! The data layer: what a def needs of its callees; the walk's rows. -/
namespace DL
open PySem PySem.Spec PyProof.Rows L2
section
variable (P : Program) (w : World) (K : PySem.W.Frag) (mg : Str → Option Value) (base : Heap)
/-- the def called x keeps W -/
structure CalP (k : Nat) (x : Str) (W : GA) : Prop where
  ex : ∃ f fd ps, FnG P w K mg base k f fd ps (SpP K W) ∧ mg x = some (.ref f) ∧ PySem.W.keepIn K (.ref f) = true ∧ Binds K fd ps []
structure CalB (k : Nat) (x : Str) (W : GAB) : Prop where
  ex : ∃ f fd ps, FnG P w K mg base k f fd ps (SpB K W) ∧ mg x = some (.ref f) ∧ PySem.W.keepIn K (.ref f) = true ∧ Binds K fd ps []
end
section
variable {P : Program} {w : World} {K : PySem.W.Frag} {mg : Str → Option Value} {base : Heap} {k j : Nat} {x : Str}
theorem CalP.mono {W : GA} (c : CalP P w K mg base j x W) (h : j ≤ k) : CalP P w K mg base k x W := by
  obtain ⟨f, fd, ps, F, r⟩ := c.ex
  exact ⟨f, fd, ps, F.mono h, r⟩
theorem CalB.mono {W : GAB} (c : CalB P w K mg base j x W) (h : j ≤ k) : CalB P w K mg base k x W := by
  obtain ⟨f, fd, ps, F, r⟩ := c.ex
  exact ⟨f, fd, ps, F.mono h, r⟩
end
section
variable {X : Cx} {ρ : DEnv} {k : Nat} {x : Str} {p pos : Pos} {e : Expr} {es : List Expr} {Post : PyData → DEnv → Prop}
theorem ew_cal {W : GA} (c : CalP X.prog X.w X.K X.mg X.base k x W) (hr : Room k X.A) (hgd : X.A.guards = some []) (hg : Gl X x) (h : AW X (e :: es) ρ fun ds ρ' => W ds fun d => Post d ρ') (hdb : (x == ("__debug__" : Str)) = false := by decide)
    (he : starEach (e :: es) X.env = (false, eval e X.env) :: starEach es X.env := by rfl) (hpl : (backTo pos (starEach es X.env)).any (·.1) = false := by rfl) : EW X (.Call (.Name x p) (e :: es) [] pos) ρ Post := by
  obtain ⟨f, fd, ps, F, hm, hk, hb⟩ := c.ex
  exact ew_callG F hr hgd hg hm hk hb h hdb he hpl
theorem ew_calO {W : GAB} {xn : Str} {px : Pos} (i : Nat) {o : OD} (c : CalB X.prog X.w X.K X.mg X.base k x W) (hr : Room k X.A) (hgd : X.A.guards = some []) (hg : Gl X x) (hp : PE X (.Name xn px) (tVar i)) (e0 : ρ[i]? = some (.ow o))
    (h : AW X es ρ fun ds ρ' => ∃ bs, ρ'[i]? = some (.ow (.lst bs)) ∧ W bs ds fun d bs' => Post d (ρ'.set i (.ow (.lst bs')))) (hdb : (x == ("__debug__" : Str)) = false := by decide) (he : starEach (.Name xn px :: es) X.env = (false, eval (.Name xn px) X.env) :: starEach es X.env := by rfl) (hpl : (backTo pos (starEach es X.env)).any (·.1) = false := by rfl) : EW X (.Call (.Name x p) (.Name xn px :: es) [] pos) ρ Post := by
  obtain ⟨f, fd, ps, F, hm, hk, hb⟩ := c.ex
  exact ew_callOG i F hr hgd hg hm hk hb hp e0 h hdb he hpl
theorem hu_room {A : Around} (r : Room k A) : A.units + 65 < cLine := by
  have := r.un
  omega
theorem isB_i {b : Bool} {P : Bool → Prop} (h : P b) : IsB (.bool b) P := ⟨b, rfl, h⟩
theorem isI_i {b : Int} {P : Int → Prop} (h : P b) : IsI (.int b) P := ⟨b, rfl, h⟩
theorem sp_t {b : Bool} {p q : Prop} (e : b = true) (h : p) : (b = true → p) ∧ (b = false → q) := ⟨fun _ => h, fun z => Bool.noConfusion (e.symm.trans z)⟩
theorem sp_f {b : Bool} {p q : Prop} (e : b = false) (h : q) : (b = true → p) ∧ (b = false → q) := ⟨fun z => Bool.noConfusion (z.symm.trans e), fun _ => h⟩
theorem split_b {b : Bool} {p q : Prop} (h1 : b = true → p) (h2 : b = false → q) : (b = true → p) ∧ (b = false → q) := ⟨h1, h2⟩
end
end DL
namespace DL
open PySem PySem.Spec PyProof.Rows L2
/-- slot i is to hold own objects -/
def Ow (_ : Nat) : Prop := True
section
variable {X : Cx} {ρ : DEnv}
def NegW : G1
  | .int i, P => P (.int (-i))
  | _, _ => False
theorem ud_neg : UnD X (unaryOp .USub) NegW := by
  refine ⟨_, un_neg, fun Hb H x dx P Q a s g k => ?_⟩
  cases a with
  | int i => exact ⟨i, rfl, k.val s (.int _) g⟩
  | _ => exact (show False from g).elim
theorem ew_glob {x : Str} {pos : Pos} {v : V} {u : Value} {d : PyData} {Post : PyData → DEnv → Prop} (hg : Gl X x) (hm : X.mg x = some u) (r : RelV v u) (hd : ∀ Hb, Da X.K Hb v d) (h : Post d ρ) (hdb : (x == ("__debug__" : Str)) = false := by decide) : EW X (.Name x pos) ρ Post := ew_const (pe_glob hg hm r hdb) hd h
end
end DL
namespace DL
open PySem PySem.Spec PyProof.Rows L2
section
variable {X : Cx} {ρ : DEnv} {pr : List Nat} {D D' : DE}
structure DE.le (D D' : DE) : Prop where
  nx : ∀ ρ, D.nx ρ → D'.nx ρ
  rt : ∀ d ρ, D.rt d ρ → D'.rt d ρ
  bk : ∀ ρ, D.bk ρ → D'.bk ρ
  ct : ∀ ρ, D.ct ρ → D'.ct ρ
  ro : ∀ o ρ, D.ro o ρ → D'.ro o ρ
theorem DE.le.rv (l : D.le D') : ∀ r ρ, D.rv r ρ → D'.rv r ρ
  | .d x, ρ, h => l.rt x ρ h
  | .o x, ρ, h => l.ro x ρ h
theorem SW.mono {st : Stmt} (h : SW X pr st ρ D) (l : D.le D') : SW X pr st ρ D' :=
  SW.by h fun DD σ H ⟨Hb, ok, k1, k2, k3, k4⟩ => ⟨Hb, ok, fun σ' ρ' Hb2 H2 f q => k1 σ' ρ' Hb2 H2 f (l.nx _ q), fun v d σ' ρ' Hb2 H2 f dv q => k2 v d σ' ρ' Hb2 H2 f dv (l.rv _ _ q), fun σ' ρ' Hb2 H2 f q => k3 σ' ρ' Hb2 H2 f (l.bk _ q), fun σ' ρ' Hb2 H2 f q => k4 σ' ρ' Hb2 H2 f (l.ct _ q)⟩
theorem SsW.mono {st : List Stmt} (h : SsW X pr st ρ D) (l : D.le D') : SsW X pr st ρ D' :=
  SsW.by h fun DD σ H ⟨Hb, ok, k1, k2, k3, k4⟩ => ⟨Hb, ok, fun σ' ρ' Hb2 H2 f q => k1 σ' ρ' Hb2 H2 f (l.nx _ q), fun v d σ' ρ' Hb2 H2 f dv q => k2 v d σ' ρ' Hb2 H2 f dv (l.rv _ _ q), fun σ' ρ' Hb2 H2 f q => k3 σ' ρ' Hb2 H2 f (l.bk _ q), fun σ' ρ' Hb2 H2 f q => k4 σ' ρ' Hb2 H2 f (l.ct _ q)⟩
/-- what follows a statement, shown once: Mid stands between -/
theorem ssw_cut {st : Stmt} {rest : List Stmt} (Mid : DEnv → Prop) (h : SW X pr st ρ { D with nx := Mid }) (k : ∀ ρ', Mid ρ' → SsW X pr rest ρ' D) : SsW X pr (st :: rest) ρ D :=
  ssw_cons (h.mono ⟨k, fun _ _ q => q, fun _ q => q, fun _ q => q, fun _ _ q => q⟩)
theorem if_join {b : Bool} {body els : List Stmt} {nx bk ct : DEnv → Prop} {rt : PyData → DEnv → Prop} {ro : OD → DEnv → Prop} (Mid : DEnv → Prop) (h1 : b = true → SsW X pr body ρ ⟨Mid, rt, bk, ct, ro⟩) (h2 : b = false → SsW X pr els ρ ⟨Mid, rt, bk, ct, ro⟩) (k : ∀ ρ', Mid ρ' → nx ρ') :
    (b = true → SsW X pr body ρ ⟨nx, rt, bk, ct, ro⟩) ∧ (b = false → SsW X pr els ρ ⟨nx, rt, bk, ct, ro⟩) :=
  ⟨fun e => (h1 e).mono ⟨k, fun _ _ q => q, fun _ q => q, fun _ q => q, fun _ _ q => q⟩, fun e => (h2 e).mono ⟨k, fun _ _ q => q, fun _ q => q, fun _ q => q, fun _ _ q => q⟩⟩
end
end DL

/-! The data layer: repr of nested lists and tuples. -/
namespace DL
open PySem PySem.Spec PyProof.Rows L2
theorem eqv_int (a b : Int) : PyData.eqv (.int a) (.int b) = decide (a = b) := by simp only [PyData.eqv]; rfl
theorem eqv_str (a b : Str) : PyData.eqv (.str a) (.str b) = decide (a = b) := by simp only [PyData.eqv]; rfl
section
variable {X : Cx}
def isDisp : PyData → Bool
  | .list _ | .tuple _ => true
  | _ => false
theorem disp_ref {h : Heap} {v : Value} {d : PyData} {as : List Addr} (r : Reads h v d as) (hd : isDisp d = true) : ∃ a, v = .ref a := by
  cases r with
  | list _ _ _ _ => exact ⟨_, rfl⟩
  | tuple _ _ _ _ => exact ⟨_, rfl⟩
  | _ => cases hd
theorem call_repr_dp (hu : X.A.units + 65 < cLine) (hg : X.A.guards = some []) : CallR X (.builtin "repr") (fun xs H Q => ∃ x d, xs = [x] ∧ Dp X.K H x d ∧ d.canLay0 = true ∧ d.showable = true ∧ isDisp d = true ∧ d.depth ≤ 63 ∧ d.shown.length ≤ sizeLine ∧ Q (.str d.shown) H) := by
  intro pins s σ H xs us Q I r h
  obtain ⟨x, d, rfl, hd, c, sh, di, dp, sz, q⟩ := h
  obtain ⟨u, rfl, rv⟩ := vals1 r
  obtain ⟨as, r1⟩ := Dp.reads I d x u hd rv
  obtain ⟨a, rfl⟩ := disp_ref r1 di
  exact repr_of_reads' r1 sh (PyData.noDict_hsm (PyData.hasDict_of_canLay d c)) hg (by omega) (fun _ _ e => e) (fun h' t tk hk => ⟨.str _, H, I.kept hk, ⟨_, rfl⟩, q⟩) sz
def ReprDW : GA
  | [d], P => (d.canLay0 = true ∧ d.showable = true ∧ isDisp d = true ∧ d.depth ≤ 63 ∧ d.shown.length ≤ 16777216) ∧ P (.str d.shown)
  | _, _ => False
theorem cd_reprD (hu : X.A.units + 65 < cLine) (hg : X.A.guards = some []) : CallD X (.builtin "repr") ReprDW := by
  refine ⟨_, call_repr_dp hu hg, fun Hb H xs ds P Q a s g k => ?_⟩
  cases a with
  | nil => exact (show False from g).elim
  | cons h1 t =>
    cases t with
    | cons h2 t => exact (show False from g).elim
    | nil =>
      obtain ⟨⟨c, sh, di, dp, sz⟩, p⟩ := g
      exact ⟨_, _, rfl, (h1.mono s.rd).dp _ _ c, c, sh, di, dp, by rw [line_eq]; exact sz, k.val s (.str _) p⟩
/-- what a display's repr needs -/
def RpOk (d : PyData) : Prop := d.canLay0 = true ∧ d.showable = true ∧ isDisp d = true ∧ d.depth ≤ 63 ∧ d.shown.length ≤ 16777216
def ReprAW : GA
  | [.int i], P => i.natAbs.log2 < 1920 ∧ P (.str (toString i))
  | [.str s], P => (reprText s).length ≤ 16777216 ∧ P (.str (reprText s))
  | [.list xs], P => RpOk (.list xs) ∧ P (.str (PyData.list xs).shown)
  | [.tuple xs], P => RpOk (.tuple xs) ∧ P (.str (PyData.tuple xs).shown)
  | _, _ => False
theorem cd_reprA (hu : X.A.units + 65 < cLine) (hg : X.A.guards = some []) : CallD X (.builtin "repr") ReprAW := by
  refine ⟨_, (SkE.call_repr_int.or call_repr_strZ).or (call_repr_dp hu hg), fun Hb H xs ds P Q a s g k => ?_⟩
  cases a with
  | nil => exact (show False from g).elim
  | @cons v vs d t h1 t' =>
    cases t' with
    | cons h2 t => cases h1 <;> exact (show False from g).elim
    | nil =>
      have go : ∀ dd : PyData, d = dd → RpOk dd ∧ P (.str dd.shown) → ∃ x e, [v] = [x] ∧ Dp X.K H x e ∧ e.canLay0 = true ∧ e.showable = true ∧ isDisp e = true ∧ e.depth ≤ 63 ∧ e.shown.length ≤ sizeLine ∧ Q (.str e.shown) H := fun dd e ⟨⟨c, sh, di, dp, sz⟩, p⟩ => by
        subst e
        exact ⟨_, _, rfl, (h1.mono s.rd).dp _ _ c, c, sh, di, dp, by rw [line_eq]; exact sz, k.val s (.str _) p⟩
      cases d with
      | int i =>
        cases h1
        exact .inl (.inl ⟨i, rfl, g.1, k.val s (.str _) g.2⟩)
      | str z =>
        cases h1
        exact .inl (.inr ⟨z, rfl, by rw [line_eq]; exact g.1, k.val s (.str _) g.2⟩)
      | list xs => exact .inr (go _ rfl g)
      | tuple xs => exact .inr (go _ rfl g)
      | _ => exact (show False from g).elim
end
end DL

/-! The data layer: new own objects: list(..), if-expressions, calls; two at once. -/
namespace DL
open PySem PySem.Spec PyProof.Rows L2
section
variable (P : Program) (w : World) (K : PySem.W.Frag) (mg : Str → Option Value) (base : Heap)
structure CalN (k : Nat) (x : Str) (W : GN) : Prop where
  ex : ∃ f fd ps, FnG P w K mg base k f fd ps (SpN K W) ∧ mg x = some (.ref f) ∧ PySem.W.keepIn K (.ref f) = true ∧ Binds K fd ps []
end
section
variable {P : Program} {w : World} {K : PySem.W.Frag} {mg : Str → Option Value} {base : Heap} {k j : Nat} {x : Str}
theorem CalN.mono {W : GN} (c : CalN P w K mg base j x W) (h : j ≤ k) : CalN P w K mg base k x W := by
  obtain ⟨f, fd, ps, F, r⟩ := c.ex
  exact ⟨f, fd, ps, F.mono h, r⟩
end
/-- what the def returns is an own object -/
def OwR : Prop := True
section
variable {X : Cx} {ρ : DEnv} {k : Nat} {x : Str} {p pos : Pos} {e a b : Expr} {es : List Expr} {Post : OD → DEnv → Prop}
theorem en_cal {W : GN} (c : CalN X.prog X.w X.K X.mg X.base k x W) (hr : Room k X.A) (hgd : X.A.guards = some []) (hg : Gl X x) (h : AW X (e :: es) ρ fun ds ρ' => W ds fun d => Post d ρ') (hdb : (x == ("__debug__" : Str)) = false := by decide)
    (he : starEach (e :: es) X.env = (false, eval e X.env) :: starEach es X.env := by rfl) (hpl : (backTo pos (starEach es X.env)).any (·.1) = false := by rfl) : EN X (.Call (.Name x p) (e :: es) [] pos) ρ Post := by
  obtain ⟨f, fd, ps, F, hm, hk, hb⟩ := c.ex
  exact en_callG F hr hgd hg hm hk hb h hdb he hpl
theorem en_ifExp {c : Expr} (h : TW X c ρ fun k ρ1 => (k = true → EN X a ρ1 Post) ∧ (k = false → EN X b ρ1 Post)) : EN X (.IfExp c a b pos) ρ Post := by
  refine EN.by (pe_ifExp (pt_any c) (pe_any a) (pe_any b)) fun σ H Q ⟨Hb, ok, k⟩ => ?_
  refine h.go ok (Grow.refl _ _ _) (Like.refl _) fun c Hb1 H1 ρ1 ok1 g1 _ l1 ⟨p1, p2⟩ => ?_
  have back : ∀ {p : Addr}, H1 p = none → H p = none := fun {p} n => by
    cases e : H p with
    | none => rfl
    | some o => exact absurd n (g1.there p (by rw [e]; simp))
  cases c with
  | true => exact (p1 rfl).go ok1 fun p u o Hb2 H2 ρ' ok2 g2 l2 n nb hp w z => k p u o Hb2 H2 ρ' ok2 (g1.trans g2 fun a z => .inl (l1.owned z)) (l1.trans l2) (back n) nb hp w z
  | false => exact (p2 rfl).go ok1 fun p u o Hb2 H2 ρ' ok2 g2 l2 n nb hp w z => k p u o Hb2 H2 ρ' ok2 (g1.trans g2 fun a z => .inl (l1.owned z)) (l1.trans l2) (back n) nb hp w z
def NwLst (P : List PyData → Prop) : PyData → Prop
  | .list xs => P xs
  | .tuple xs => P xs
  | _ => False
/-- a new list over what is readable -/
theorem fin_new {K : PySem.W.Frag} {σ : L2.St} {H : Hp} {Q : VK} {Hb Hb1 H1 : Hp} {ρ1 : DEnv} (k : ∀ p u o Hb2 H2 ρ', Ok K σ Hb2 H2 ρ' → Grow (Owned σ ρ) Hb H Hb2 H2 → Like ρ ρ' → H p = none → Hb2 p = none → H2 p = some u → OwOk K Hb2 o u → Post o ρ' → Q (.ref p) H2)
    (ok1 : Ok K σ Hb1 H1 ρ1) (g1 : Grow (Owned σ ρ) Hb H Hb1 H1) (l1 : Like ρ ρ1) {vs : List V} {ds : List PyData} (da : DaAll K Hb1 vs ds) (z : Post (.lst ds) ρ1) {q : Addr} (n : H1 q = none) : Q (.ref q) (upd H1 q (.lst vs)) := by
  have kp : ∀ a o, H1 a = some o → ¬ N0 a → upd H1 q (.lst vs) a = some o := fun a o e _ => by
    rw [upd_ne]
    · exact e
    · rintro rfl
      rw [n] at e
      cases e
  have th : ∀ a, H1 a ≠ none → upd H1 q (.lst vs) a ≠ none := fun a h => by
    by_cases e : a = q
    · subst e
      rw [upd_same]
      simp
    · rw [upd_ne e]
      exact h
  have g2 : Grow N0 Hb1 H1 Hb1 (upd H1 q (.lst vs)) := ⟨Same.refl _, kp, fun _ _ h _ => h, th⟩
  have nb : Hb1 q = none := ok1.sub.no n
  have s2 : Sub Hb1 (upd H1 q (.lst vs)) := fun a x e => by
    by_cases z : a = q
    · subst z
      rw [nb] at e
      cases e
    · rw [upd_ne z]
      exact ok1.sub a x e
  refine k q (.lst vs) (.lst ds) Hb1 _ ρ1 (ok1.grow g2 s2) (g1.trans0 g2) l1 ?_ nb upd_same ⟨vs, rfl, da⟩ z
  cases e : H q with
  | none => rfl
  | some o => exact absurd n (g1.there q (by rw [e]; simp))
theorem en_list (hg : Gl X "list") (hm : X.mg "list" = none) (h : EW X e ρ fun d ρ' => NwLst (fun xs => Post (.lst xs) ρ') d)
    (he : starEach [e] X.env = (false, eval e X.env) :: starEach [] X.env := by rfl) : EN X (.Call (.Name "list" p) [e] [] pos) ρ Post := by
  refine EN.by (pe_callTy call_list_of hg hm (by decide +kernel) (pa_cons (pe_any e) pa_nil he) (by decide) (by decide) he rfl) fun σ H Q ⟨Hb, ok, k⟩ => ?_
  refine h.go ok (Grow.refl _ _ _) (Like.refl _) fun v d Hb1 H1 ρ1 ok1 g1 _ l1 d1 p1 => ?_
  cases d1 with
  | lst hs ha => exact ⟨_, _, rfl, .inl ((hs.mono ok1.sub.rd).sq), fun l hl => fin_new k ok1 g1 l1 ha p1 hl⟩
  | tup hs ha => exact ⟨_, _, rfl, .inr (ok1.sub.rd.t hs), fun l hl => fin_new k ok1 g1 l1 ha p1 hl⟩
  | _ => exact (show False from p1).elim
/-- list(x), x an own list -/
theorem en_listO {xn : Str} {px : Pos} (i : Nat) {ds : List PyData} (hg : Gl X "list") (hm : X.mg "list" = none) (hp : PE X (.Name xn px) (tVar i)) (e0 : ρ[i]? = some (.ow (.lst ds))) (h : Post (.lst ds) ρ)
    (he : starEach [.Name xn px] X.env = (false, eval (.Name xn px) X.env) :: starEach [] X.env := by rfl) : EN X (.Call (.Name "list" p) [.Name xn px] [] pos) ρ Post := by
  refine EN.by (pe_callTy call_list_of hg hm (by decide +kernel) (pa_cons hp pa_nil he) (by decide) (by decide) he rfl) fun σ H Q ⟨Hb, ok, k⟩ => ?_
  obtain ⟨q, u, s1, s2, s3, us, e4, s5⟩ := ok.own e0
  subst e4
  exact ⟨_, s1, q, us, rfl, .inl (.inl (.inl s3)), fun l hl => fin_new k ok (Grow.refl _ _ _) (Like.refl _) s5 h hl⟩
theorem da_rangeV {K : PySem.W.Frag} {Hb : Hp} (lo : Int) : ∀ (l : List Nat), DaAll K Hb (l.map fun i => V.int (lo + (i : Nat))) (l.map fun (i : Nat) => PyData.int (lo + (i : Int)))
  | [] => .nil
  | _ :: l => .cons (.int _) (da_rangeV lo l)
theorem en_listRg {p2 pos2 : Pos} (hc : X.calm = true) (hg : Gl X "list") (hm : X.mg "list" = none) (hg2 : Gl X "range") (hm2 : X.mg "range" = none) (h : EW X a ρ fun d ρ' => ∃ n : Int, d = .int n ∧ (0 ≤ n ∧ n ≤ 16000000) ∧ Post (.lst (rangeD 0 n.toNat)) ρ')
    (na : starEach [a] X.env = (false, eval a X.env) :: starEach [] X.env := by rfl) (ne : starEach [.Call (.Name "range" p2) [a] [] pos2] X.env = (false, eval (.Call (.Name "range" p2) [a] [] pos2) X.env) :: starEach [] X.env := by rfl) : EN X (.Call (.Name "list" p) [.Call (.Name "range" p2) [a] [] pos2] [] pos) ρ Post := by
  refine EN.by (pe_listRg hc hg hm (prg_1 hg2 hm2 (pe_any a) na) ne) fun σ H Q ⟨Hb, ok, k⟩ => ?_
  refine h.go ok (Grow.refl _ _ _) (Like.refl _) fun v d Hb1 H1 ρ1 ok1 g1 _ l1 d1 ⟨n, e, ⟨b1, b2⟩, p1⟩ => ?_
  subst e
  cases d1
  refine ⟨n, rfl, RgOk.of_le (by omega) (by omega) (by omega) b1, fun q hq => fin_new k ok1 g1 l1 (ds := rangeD 0 n.toNat) ?_ p1 hq⟩
  unfold rgV rangeD
  rw [Int.sub_zero]
  exact da_rangeV 0 _
theorem Ok.setO {K : PySem.W.Frag} {σ : L2.St} {ρ : DEnv} {Hb H : Hp} (ok : Ok K σ Hb H ρ) {i : Nat} {p : Addr} {u : HO} {o : OD} (np : ∀ (j : Nat) (o' : OD), ρ[j]? = some (.ow o') → σ[j]? ≠ some (some (.ref p))) (nb : Hb p = none) (hp : H p = some u) (w : OwOk K Hb o u) (hl : i < ρ.length) :
    Ok K (σ.set i (some (.ref p))) Hb H (ρ.set i (.ow o)) := by
  have hl' : i < σ.length := ok.len ▸ hl
  refine ⟨by rw [List.length_set, List.length_set]; exact ok.len, ok.sub, fun j s e => ?_, fun j k o1 o2 q ej ek sj sk => ?_⟩
  · by_cases m : i = j
    · subst m
      rw [List.getElem?_set_self hl] at e
      cases e
      exact ⟨p, u, by rw [List.getElem?_set_self hl'], nb, hp, w⟩
    · rw [List.getElem?_set_ne m] at e
      have q := ok.sl j s e
      rw [List.getElem?_set_ne m]
      exact q
  · by_cases mj : i = j
    · by_cases mk : i = k
      · exact mj.symm.trans mk
      · subst mj
        rw [List.getElem?_set_self hl'] at sj
        rw [List.getElem?_set_ne mk] at ek sk
        cases sj
        exact absurd sk (np k o2 ek)
    · by_cases mk : i = k
      · subst mk
        rw [List.getElem?_set_self hl'] at sk
        rw [List.getElem?_set_ne mj] at ej sj
        cases sk
        exact absurd sj (np j o1 ej)
      · rw [List.getElem?_set_ne mj] at ej sj
        rw [List.getElem?_set_ne mk] at ek sk
        exact ok.ap j k o1 o2 q ej ek sj sk
theorem owned_setO {σ : L2.St} {ρ : DEnv} {i : Nat} {p a : Addr} {o : OD} (hl : i < σ.length) (h : Owned (σ.set i (some (.ref p))) (ρ.set i (.ow o)) a) : a = p ∨ Owned σ ρ a := by
  obtain ⟨j, o1, e, s⟩ := h
  by_cases m : i = j
  · subst m
    rw [List.getElem?_set_self hl] at s
    cases s
    exact .inl rfl
  · rw [List.getElem?_set_ne m] at e s
    exact .inr ⟨j, o1, e, s⟩
/-- x, y = a, b: two own objects, both new -/
theorem sw_parN {x y : Str} {a b : Expr} {px py pt : Pos} {kt k2 : Nat} {pt2 : Pos} {pr : List Nat} {D : DE} (i j : Nat) (hp : PS X (.Assign [.Tuple [.Name x px, .Name y py] kt pt] (.Tuple [a, b] k2 pt2) pos) (tPar i j (tCons (tAny X a) (tCons (tAny X b) tNil)))) (hi : i ∉ pr) (hj : j ∉ pr) (hil : i < ρ.length) (hjl : j < ρ.length) (hij : i ≠ j)
    (h : EN X a ρ fun o1 ρ1 => EN X b ρ1 fun o2 ρ2 => D.nx ((ρ2.set i (.ow o1)).set j (.ow o2))) : SW X pr (.Assign [.Tuple [.Name x px, .Name y py] kt pt] (.Tuple [a, b] k2 pt2) pos) ρ D := by
  refine SW.by hp fun DD σ H ⟨Hb, ok, k, _⟩ => ?_
  refine h.go ok fun p u o1 Hb1 H1 ρ1 ok1 g1 l1 n1 nb1 hu1 w1 z1 => ?_
  refine z1.go ok1 fun q u2 o2 Hb2 H2 ρ2 ok2 g2 l2 n2 nb2 hu2 w2 z2 => ?_
  have np : ¬ Owned σ ρ1 p := fun z => by
    obtain ⟨m, o, e1, e2⟩ := l1.owned z
    obtain ⟨p', u', s1, _, s3, _⟩ := ok.own e1
    rw [e2] at s1
    cases s1
    rw [n1] at s3
    cases s3
  have hp2 : H2 p = some u := g2.keep p u hu1 np
  have nbp : Hb2 p = none := g2.hid p np nb1 (by rw [hu1]; simp)
  have pq : p ≠ q := by
    rintro rfl
    rw [hu1] at n2
    cases n2
  have g12 : Grow (Owned σ ρ) Hb H Hb2 H2 := g1.trans g2 fun a z => .inl (l1.owned z)
  have l12 := l1.trans l2
  have nq : H q = none := by
    cases e : H q with
    | none => rfl
    | some o => exact absurd n2 (g1.there q (by rw [e]; simp))
  have fresh : ∀ r, H r = none → ∀ (m : Nat) (o' : OD), ρ2[m]? = some (.ow o') → σ[m]? ≠ some (some (.ref r)) := fun r nr m o' e s => by
    obtain ⟨o'', e''⟩ := l12.ow e
    obtain ⟨p', u', s1, _, s3, _⟩ := ok.own e''
    rw [s] at s1
    cases s1
    rw [nr] at s3
    cases s3
  have hi2 : i < ρ2.length := l12.1 ▸ hil
  have hi3 : i < σ.length := ok2.len ▸ hi2
  have hj2 : j < (ρ2.set i (.ow o1)).length := by rw [List.length_set]; exact l12.1 ▸ hjl
  have ok3 := ok2.setO (fresh p n1) nbp hp2 (w1.mono (same_rd g2.per)) hi2
  have hj3 : j < (σ.set i (some (V.ref p))).length := ok3.len ▸ hj2
  have ok4 := ok3.setO (i := j) (p := q) (fun m o' e s => by
    by_cases c : i = m
    · subst c
      rw [List.getElem?_set_self hi3] at s
      cases s
      exact pq rfl
    · rw [List.getElem?_set_ne c] at e s
      exact fresh q nq m o' e s) nb2 hu2 w2 hj2
  refine ⟨.ref p, .ref q, rfl, k _ _ Hb2 H2 ⟨ok4, g12, fun a z => ?_, fun m hm => ?_⟩ z2⟩
  · rcases owned_setO hj3 z with rfl | z
    · exact .inr nq
    · rcases owned_setO hi3 z with rfl | z
      · exact .inr n1
      · exact .inl (l12.owned z)
  · rw [List.getElem?_set_ne (fun e : j = m => hj (e.symm ▸ hm)), List.getElem?_set_ne (fun e : i = m => hi (e.symm ▸ hm))]
end
end DL

/-! The data layer: own objects lent: for the time of an expression that changes none of them and comes to something flat, they are data. -/
namespace DL
open PySem PySem.Spec PyProof.Rows L2
def frzS : Sl → Sl
  | .ow o => .pd o.data
  | s => s
def frz (ρ : DEnv) : DEnv := ρ.map frzS
def FlatD : PyData → Prop
  | .none | .bool _ | .int _ | .str _ => True
  | _ => False
theorem flat_da {K : PySem.W.Frag} {Hb Hb2 : Hp} {v : V} {d : PyData} (f : FlatD d) (h : Da K Hb2 v d) : Da K Hb v d := by
  cases h with
  | non => exact .non
  | bl b => exact .bl b
  | int i => exact .int i
  | str s => exact .str s
  | _ => exact (show False from f).elim
section
variable {K : PySem.W.Frag} {σ : L2.St} {Hb H : Hp} {ρ : DEnv}
theorem frz_ow {i : Nat} {o : OD} : (frz ρ)[i]? ≠ some (.ow o) := fun e => by
  unfold frz at e
  rw [List.getElem?_map] at e
  cases q : ρ[i]? with
  | none =>
    rw [q] at e
    cases e
  | some s =>
    rw [q] at e
    cases s <;> cases e
theorem frz_no {p : Addr} : ¬ Owned σ (frz ρ) p := fun ⟨_, _, e, _⟩ => frz_ow e
theorem lend_ok (ok : Ok K σ Hb H ρ) : ∃ Hbf, Ok K σ Hbf H (frz ρ) ∧ Same Hb Hbf := by
  classical
  have own : ∀ a, Owned σ ρ a → Hb a = none := fun a ⟨i, o, e, s⟩ => by
    obtain ⟨p, u, s1, s2, _⟩ := ok.own e
    rw [s] at s1
    cases s1
    exact s2
  have sm : Same Hb (fun a => if Owned σ ρ a then H a else Hb a) := fun a x e => by
    have n : ¬ Owned σ ρ a := fun z => by
      rw [own a z] at e
      cases e
    show (if Owned σ ρ a then H a else Hb a) = some x
    rw [if_neg n]
    exact e
  refine ⟨fun a => if Owned σ ρ a then H a else Hb a, ⟨by unfold frz; rw [List.length_map]; exact ok.len, fun a x e => ?_, fun i s e => ?_, fun i j o o' p ei => absurd ei frz_ow⟩, sm⟩
  · by_cases z : Owned σ ρ a
    · rw [if_pos z] at e
      exact .inl e
    · rw [if_neg z] at e
      exact ok.sub a x e
  · unfold frz at e
    rw [List.getElem?_map] at e
    cases q : ρ[i]? with
    | none =>
      rw [q] at e
      cases e
    | some t =>
      rw [q] at e
      cases t with
      | un =>
        cases e
        trivial
      | pd d =>
        cases e
        obtain ⟨v, e1, e2⟩ := ok.pd q
        exact ⟨v, e1, e2.mono (same_rd sm)⟩
      | ow o =>
        cases e
        obtain ⟨p, u, s1, s2, s3, s4⟩ := ok.own q
        refine ⟨_, s1, (s4.da s2).mono (same_rd fun a x e => ?_)⟩
        show (if Owned σ ρ a then H a else Hb a) = some x
        by_cases z : a = p
        · subst z
          rw [upd_same] at e
          rw [if_pos ⟨i, o, q, s1⟩, s3]
          exact e
        · rw [upd_ne z] at e
          exact sm a x e
theorem lend_back {Hbf Hb2 H2 : Hp} (ok : Ok K σ Hb H ρ) (g : Grow (Owned σ (frz ρ)) Hbf H Hb2 H2) : Ok K σ Hb H2 ρ ∧ Grow (Owned σ ρ) Hb H Hb H2 := by
  have kp : ∀ a x, H a = some x → H2 a = some x := fun a x e => g.keep a x e frz_no
  refine ⟨⟨ok.len, fun a x e => ?_, fun i s e => ?_, ok.ap⟩, Same.refl _, fun a o e _ => kp a o e, fun _ _ h _ => h, g.there⟩
  · rcases ok.sub a x e with q | ⟨n, o, q⟩
    · exact .inl (kp a _ q)
    · exact .inr ⟨n, o, kp a _ q⟩
  · cases s with
    | un => trivial
    | pd d => exact ok.sl i _ e
    | ow o =>
      obtain ⟨p, u, s1, s2, s3, s4⟩ := ok.own e
      exact ⟨p, u, s1, s2, kp _ _ s3, s4⟩
end
section
variable {X : Cx} {ρ : DEnv} {k : Nat} {x : Str} {p pos : Pos} {e : Expr} {es : List Expr} {Post : PyData → DEnv → Prop}
theorem ew_lend (h : EW X e (frz ρ) fun d _ => FlatD d ∧ Post d ρ) : EW X e ρ Post := by
  refine EW.by h fun σ H Q ⟨Hb, ok, k⟩ => ?_
  obtain ⟨Hbf, okf, sm⟩ := lend_ok ok
  refine ⟨Hbf, okf, fun v d Hb2 H2 ρ' ok2 g2 l2 dv ⟨f, q⟩ => ?_⟩
  obtain ⟨ok3, g3⟩ := lend_back ok g2
  exact k v d Hb H2 ρ ok3 g3 (Like.refl _) (flat_da f dv) q
theorem tw_lend {P : Bool → DEnv → Prop} (h : TW X e (frz ρ) fun b _ => P b ρ) : TW X e ρ P := by
  refine TW.by h fun σ H Q ⟨Hb, ok, k⟩ => ?_
  obtain ⟨Hbf, okf, sm⟩ := lend_ok ok
  refine ⟨Hbf, okf, fun b Hb2 H2 ρ' ok2 g2 l2 q => ?_⟩
  obtain ⟨ok3, g3⟩ := lend_back ok g2
  exact k b Hb H2 ρ ok3 g3 (Like.refl _) q
/-- own objects are lent to the def x -/
def Lend (_ : Str) : Prop := True
theorem ew_calL {W : GA} (_ : Lend x) (c : CalP X.prog X.w X.K X.mg X.base k x W) (hr : Room k X.A) (hgd : X.A.guards = some []) (hg : Gl X x) (h : AW X (e :: es) (frz ρ) fun ds _ => W ds fun d => FlatD d ∧ Post d ρ) (hdb : (x == ("__debug__" : Str)) = false := by decide)
    (he : starEach (e :: es) X.env = (false, eval e X.env) :: starEach es X.env := by rfl) (hpl : (backTo pos (starEach es X.env)).any (·.1) = false := by rfl) : EW X (.Call (.Name x p) (e :: es) [] pos) ρ Post :=
  ew_lend (ew_cal c hr hgd hg h hdb he hpl)
end
end DL

/-! The data layer: list comprehensions over typed lists. -/
namespace DL
open PySem PySem.Spec PyProof.Rows L2
/-- a slot that isn't an own object -/
def noOwS : Sl → Bool
  | .ow _ => false
  | _ => true
def noOwB (ρ : DEnv) (vs : List Nat) : Bool := vs.all fun i => noOwS (ρ[i]?.getD .un)
theorem noOw_of {ρ : DEnv} {vs : List Nat} (h : noOwB ρ vs = true) : NoOw ρ vs := fun i hi o e => by
  have z := List.all_eq_true.mp h i hi
  rw [e] at z
  cases z
theorem noOw1 {ρ : DEnv} {v : Nat} (h : noOwS (ρ[v]?.getD .un) = true) : NoOw ρ [v] := noOw_of (by simp [noOwB, h])
section
variable {X : Cx} {ρ : DEnv} {scope : Scope} {tg iter elt : Expr} {ifs : List Expr} {own : List (Str × Nat)}
/-- what a comprehension asks that changes no own object: ys the items, c which are taken, f what of them -/
def LcW (X : Cx) (scope : Scope) (tg elt : Expr) (ifs : List Expr) (vs : List Nat) (P : List PyData → DEnv → Prop) (xs : List PyData) (ρ1 : DEnv) : Prop :=
  NoOw ρ1 vs ∧ ∃ (α : Type) (ys : List α) (enc : α → PyData) (c : α → Bool) (f : α → PyData), xs = ys.map enc ∧
    (∀ y, y ∈ ys → GB X scope vs tg (enc y) (wipeD ρ1 vs) fun ρ2 => TB X scope ifs ρ2 fun b ρ3 => wipeD ρ3 vs = wipeD ρ1 vs ∧ b = c y ∧ (b = true → EB X scope elt ρ3 fun d ρ4 => wipeD ρ4 vs = wipeD ρ1 vs ∧ d = f y)) ∧ P ((ys.filter c).map f) ρ1
theorem lc_of {P : List PyData → DEnv → Prop} {vs : List Nat} (h : IW X tg iter ρ fun xs ρ1 => LcW X scope tg elt ifs vs P xs ρ1) : IW X tg iter ρ fun xs ρ1 => NoOw ρ1 vs ∧ ∃ J : Nat → List PyData → DEnv → Prop, J 0 [] (wipeD ρ1 vs) ∧
      (∀ i x acc ρi, xs[i]? = some x → J i acc ρi → GB X scope vs tg x ρi fun ρ2 => TB X scope ifs ρ2 fun b ρ3 => (b = true → EB X scope elt ρ3 fun d ρ4 => J (i + 1) (acc ++ [d]) (wipeD ρ4 vs)) ∧ (b = false → J (i + 1) acc (wipeD ρ3 vs))) ∧
      ∀ acc ρn, J xs.length acc ρn → P acc (backD ρ1 ρn vs) := by
  refine IW.by h fun σ H R ⟨Hb, ok, k⟩ => ⟨Hb, ok, fun J xs Hb2 H2 ρ1 ok2 g2 l2 j hz ⟨hno, α, ys, enc, c, f, ex, hx, hP⟩ => k J xs Hb2 H2 ρ1 ok2 g2 l2 j hz ⟨hno, fun i acc ρi => acc = ((ys.take i).filter c).map f ∧ ρi = wipeD ρ1 vs, ⟨by simp, rfl⟩, fun i x acc ρi ei ⟨ea, er⟩ => ?_, fun acc ρn ⟨ea, er⟩ => ?_⟩⟩
  · subst ea er ex
    rw [List.getElem?_map] at ei
    cases ey : ys[i]? with
    | none =>
      rw [ey] at ei
      cases ei
    | some y =>
      rw [ey] at ei
      cases ei
      have step : (ys.take (i + 1)).filter c = (ys.take i).filter c ++ (if c y = true then [y] else []) := by
        rw [List.take_add_one, ey, List.filter_append]
        congr 1
        by_cases q : c y = true <;> simp [q]
      intro s H C cl fp
      refine ⟨fun pins s2 σ2 H2 v u Q I r w => (hx y (List.mem_of_getElem? ey) s H C cl fp).run pins s2 σ2 H2 v u Q I r ?_⟩
      obtain ⟨Hb, ok, dv, k⟩ := w
      refine ⟨Hb, ok, dv, fun σ' ρ' Hb2 H2 f2 p2 => k σ' ρ' Hb2 H2 f2 fun s H C cl fp => ⟨fun pins s2 σ2 H2 Q I w => (p2 s H C cl fp).run pins s2 σ2 H2 Q I ?_⟩⟩
      obtain ⟨Hb, ok, k⟩ := w
      refine ⟨Hb, ok, fun b Hb2 H2 ρ3 ok3 g3 l3 ⟨e1, e2, e3⟩ => k b Hb2 H2 ρ3 ok3 g3 l3 ⟨fun hb s H C cl fp => (e3 hb s H C cl fp).mono fun d ρ4 ⟨z1, z2⟩ => ⟨?_, z1⟩, fun hb => ⟨?_, e1⟩⟩⟩
      · rw [step, if_pos (e2 ▸ hb), z2, List.map_append]
        rfl
      · rw [step, if_neg (by rw [← e2, hb]; exact Bool.false_ne_true), List.append_nil]
  · subst ea er ex
    rw [backD_self, List.length_map, List.take_length]
    exact hP
theorem en_lcM {pos : Pos} {P : OD → DEnv → Prop} (own : List (Str × Nat)) (hc : X.calm = true) (hN : X.N.Nodup) (ok : BlkOk X.N X.env.scope scope own) (h : IW X tg iter ρ (LcW X scope tg elt ifs (own.map (·.2)) fun ds => P (.lst ds))) (hs : ∀ x, foldedSetIterable iter X.env x = pure x := by intro _; rfl) :
    EN X (.ListComp elt [⟨tg, iter, ifs, 0⟩] scope pos) ρ P := en_lc hc hN ok (lc_of h) hs
theorem sw_lcM {pr : List Nat} {D : DE} {y : Str} {py spos pos : Pos} (i : Nat) (own : List (Str × Nat)) (hc : X.calm = true) (hN : X.N.Nodup) (hy : X.N[i]? = some y) (hyl : X.env.scope.names.lookup y = some .local)
    (hsw : swapsWith (.ListComp elt [⟨tg, iter, ifs, 0⟩] scope pos) (some (.Name y py)) spos.line X.env = pure true) (ok : BlkOk X.N X.env.scope scope own) (hi : i ∉ pr) (hil : i < ρ.length)
    (h : IW X tg iter ρ (LcW X scope tg elt ifs (own.map (·.2)) fun ds ρ1 => D.nx (ρ1.set i (.pd (.list ds))))) (hs : ∀ x, foldedSetIterable iter X.env x = pure x := by intro _; rfl) :
    SW X pr (.Assign [.Name y py] (.ListComp elt [⟨tg, iter, ifs, 0⟩] scope pos) spos) ρ D := sw_lc i hc hN hy hyl hsw ok hi hil false (lc_of (P := fun ds ρ' => D.nx (ρ'.set i (.pd (.list ds)))) h) hs
theorem sw_lcN {pr : List Nat} {D : DE} {y : Str} {py spos pos : Pos} (i : Nat) (own : List (Str × Nat)) (hc : X.calm = true) (hN : X.N.Nodup) (hy : X.N[i]? = some y) (hyl : X.env.scope.names.lookup y = some .local)
    (hsw : swapsWith (.ListComp elt [⟨tg, iter, ifs, 0⟩] scope pos) (some (.Name y py)) spos.line X.env = pure true) (ok : BlkOk X.N X.env.scope scope own) (hi : i ∉ pr) (hil : i < ρ.length)
    (h : IW X tg iter ρ (LcW X scope tg elt ifs (own.map (·.2)) fun ds ρ1 => D.nx (ρ1.set i (.ow (.lst ds))))) (hs : ∀ x, foldedSetIterable iter X.env x = pure x := by intro _; rfl) :
    SW X pr (.Assign [.Name y py] (.ListComp elt [⟨tg, iter, ifs, 0⟩] scope pos) spos) ρ D := sw_lc i hc hN hy hyl hsw ok hi hil true (lc_of (P := fun ds ρ' => D.nx (ρ'.set i (.ow (.lst ds)))) h) hs
end
/-- the turns over a range -/
theorem rgJ {lo : Int} {n : Nat} {ρ : DEnv} {G : (Nat → DEnv → Prop) → Nat → PyData → DEnv → Prop} {Q : DEnv → Prop} (J : Nat → DEnv → Prop) (h0 : J 0 ρ) (hs : ∀ i ρi, i < n → J i ρi → G J i (.int (lo + (i : Int))) ρi) (hd : ∀ ρn, J n ρn → Q ρn) :
    ∃ J : Nat → DEnv → Prop, J 0 ρ ∧ (∀ i x ρi, (rangeD lo n)[i]? = some x → J i ρi → G J i x ρi) ∧ ∀ ρn, J (rangeD lo n).length ρn → Q ρn := by
  refine ⟨J, h0, fun i x ρi e j => ?_, fun ρn j => hd ρn (by rw [rangeD_length] at j; exact j)⟩
  have hi := (List.getElem?_eq_some_iff.mp e).1
  rw [rangeD_length] at hi
  rw [rangeD_get hi] at e
  cases e
  exact hs i ρi hi j
theorem rgJ0 {n : Nat} {ρ : DEnv} {G : (Nat → DEnv → Prop) → Nat → PyData → DEnv → Prop} {Q : DEnv → Prop} (J : Nat → DEnv → Prop) (h0 : J 0 ρ) (hs : ∀ i ρi, i < n → J i ρi → G J i (.int (i : Int)) ρi) (hd : ∀ ρn, J n ρn → Q ρn) :
    ∃ J : Nat → DEnv → Prop, J 0 ρ ∧ (∀ i x ρi, (rangeD 0 n)[i]? = some x → J i ρi → G J i x ρi) ∧ ∀ ρn, J (rangeD 0 n).length ρn → Q ρn :=
  rgJ J h0 (fun i ρi hi j => by rw [Int.zero_add]; exact hs i ρi hi j) hd
/-- .. over a typed list -/
theorem mpJ {α : Type} {ys : List α} {enc : α → PyData} {ρ : DEnv} {G : (Nat → DEnv → Prop) → Nat → PyData → DEnv → Prop} {Q : DEnv → Prop} (J : Nat → DEnv → Prop) (h0 : J 0 ρ) (hs : ∀ i y ρi, ys[i]? = some y → J i ρi → G J i (enc y) ρi) (hd : ∀ ρn, J ys.length ρn → Q ρn) :
    ∃ J : Nat → DEnv → Prop, J 0 ρ ∧ (∀ i x ρi, (ys.map enc)[i]? = some x → J i ρi → G J i x ρi) ∧ ∀ ρn, J (ys.map enc).length ρn → Q ρn := by
  refine ⟨J, h0, fun i x ρi e j => ?_, fun ρn j => hd ρn (by rw [List.length_map] at j; exact j)⟩
  rw [List.getElem?_map] at e
  cases ey : ys[i]? with
  | none =>
    rw [ey] at e
    cases e
  | some y =>
    rw [ey] at e
    cases e
    exact hs i y ρi ey j
/-- the turns of a comprehension over a range -/
theorem rgL {n : Nat} {ρ0 : DEnv} {G : (Nat → List PyData → DEnv → Prop) → Nat → PyData → List PyData → DEnv → Prop} {R : List PyData → DEnv → Prop} (J : Nat → List PyData → DEnv → Prop) (h0 : J 0 [] ρ0) (hs : ∀ i acc ρi, i < n → J i acc ρi → G J i (.int (i : Int)) acc ρi) (hd : ∀ acc ρn, J n acc ρn → R acc ρn) :
    ∃ J : Nat → List PyData → DEnv → Prop, J 0 [] ρ0 ∧ (∀ i x acc ρi, (rangeD 0 n)[i]? = some x → J i acc ρi → G J i x acc ρi) ∧ ∀ acc ρn, J (rangeD 0 n).length acc ρn → R acc ρn := by
  refine ⟨J, h0, fun i x acc ρi e j => ?_, fun acc ρn j => hd acc ρn (by rw [rangeD_length] at j; exact j)⟩
  have hi := (List.getElem?_eq_some_iff.mp e).1
  rw [rangeD_length] at hi
  rw [rangeD_get hi, Int.zero_add] at e
  cases e
  exact hs i acc ρi hi j
theorem log_ok {n : Nat} (h : n < 10 ^ 100) : ((n : Int)).natAbs.log2 < 1920 := by
  rw [Int.natAbs_natCast]
  by_cases e : n = 0
  · subst e
    decide
  · exact (Nat.log2_lt e).mpr (Nat.lt_trans h (by decide +kernel))
theorem txt_len {n : Nat} (h : n < 10 ^ 100) : (Str.ofString (toString (n : Int))).length ≤ 1921 := int_text_len_1921 (log_ok h)
theorem mpJE {α : Type} {ys : List α} {xs : List PyData} {enc : α → PyData} {ρ : DEnv} {G : (Nat → DEnv → Prop) → Nat → PyData → DEnv → Prop} {Q : DEnv → Prop} (e : xs = ys.map enc) (J : Nat → DEnv → Prop) (h0 : J 0 ρ) (hs : ∀ i y ρi, ys[i]? = some y → J i ρi → G J i (enc y) ρi) (hd : ∀ ρn, J ys.length ρn → Q ρn) :
    ∃ J : Nat → DEnv → Prop, J 0 ρ ∧ (∀ i x ρi, xs[i]? = some x → J i ρi → G J i x ρi) ∧ ∀ ρn, J xs.length ρn → Q ρn := by
  subst e
  exact mpJ J h0 hs hd
theorem filter_true {α : Type} (l : List α) : (l.filter fun _ => true) = l := List.filter_eq_self.mpr fun _ _ => rfl
theorem blkOk_of {X : Cx} {N ps : List Str} {sc scope : Scope} {own : List (Str × Nat)} (S : FnScope N ps sc) (hN : X.N = N) (hs : X.env.scope = sc) (h : blkC N sc scope own = true) : BlkOk X.N X.env.scope scope own := by
  rw [hN, hs]
  exact blkOk_by h
theorem rangeD0 (n : Nat) : rangeD 0 n = (List.range n).map fun (i : Nat) => PyData.int (i : Int) := by
  unfold rangeD
  refine List.map_congr_left fun i _ => ?_
  rw [Int.zero_add]
end DL

/-! The data layer: small data. -/
namespace DL
open PySem PySem.Spec PyProof.Rows L2
/-- D levels deep at most, W heavy at most, ints short, no dict -/
structure Sm (D W : Nat) (d : PyData) : Prop where
  lay : d.canLay0 = true
  dep : d.depth ≤ D
  wt : d.weight ≤ W
  sh : d.intsShort 13 = true
  sw : d.showable = true
theorem Sm.mono {D W D' W' : Nat} {d : PyData} (h : Sm D W d) (a : D ≤ D') (b : W ≤ W') : Sm D' W' d := ⟨h.lay, Nat.le_trans h.dep a, Nat.le_trans h.wt b, h.sh, h.sw⟩
theorem sm_none {D W : Nat} : Sm D W .none := ⟨rfl, Nat.zero_le _, Nat.zero_le _, rfl, rfl⟩
theorem sm_bool {D W : Nat} (b : Bool) : Sm D W (.bool b) := ⟨rfl, Nat.zero_le _, Nat.zero_le _, rfl, rfl⟩
theorem log_lt {n k : Nat} (hk : 0 < k) (h : n < 2 ^ k) : n.log2 < k := by
  by_cases e : n = 0
  · subst e
    exact hk
  · exact (Nat.log2_lt e).mpr h
theorem sm_int {D W : Nat} {i : Int} (h : i.natAbs < 10 ^ 12) (w : 40 ≤ W) : Sm D W (.int i) := by
  have h1 : i.natAbs.log2 < 40 := log_lt (by decide) (Nat.lt_trans h (by decide))
  refine ⟨rfl, Nat.zero_le _, ?_, ?_, ?_⟩
  · simp only [PyData.weight]
    split <;> omega
  · have e : (PyData.int i).shown.length ≤ 13 := by
      have e2 : (PyData.int i).shown = Str.ofString (toString i) := by simp only [PyData.shown]
      rw [e2, PySem.ofString_length]
      exact PySem.int_text_length_le10 (k := 12) (by decide) h
    simpa only [PyData.intsShort, decide_eq_true_eq] using e
  · simp only [PyData.showable, decide_eq_true_eq]
    omega
theorem sm_nat {D W : Nat} {n : Nat} (h : n < 10 ^ 12) (w : 40 ≤ W) : Sm D W (.int (n : Int)) := sm_int (by simpa using h) w
theorem strOk_lit (s : String) : PyData.strOk (Str.ofString s) = true := by
  unfold PyData.strOk
  rw [PySem.Str.ofString_eq_toList, Array.all_eq_true_iff_forall_mem]
  intro c hc
  obtain ⟨d, _, rfl⟩ := List.mem_map.mp (by simpa using hc : c ∈ s.toList.map Char.toNat)
  have := d.valid
  simp only [decide_eq_true_eq]
  rcases this with h | ⟨_, h⟩
  · exact Nat.lt_trans h (by decide)
  · exact h
theorem strOk_app {a b : Str} (h1 : PyData.strOk a = true) (h2 : PyData.strOk b = true) : PyData.strOk (a ++ b) = true := by
  unfold PyData.strOk at *
  rw [PySem.Str.cps_append, Array.all_append, h1, h2]
  rfl
theorem sm_str {D W : Nat} {s : Str} (h : PyData.strOk s = true) (w : s.length ≤ W) : Sm D W (.str s) := ⟨by simpa only [PyData.canLay0] using h, Nat.zero_le _, w, rfl, rfl⟩
theorem all_lay : ∀ {xs : List PyData}, (∀ x ∈ xs, x.canLay0 = true) → PyData.canLayAll0 xs = true
  | [], _ => rfl
  | x :: xs, h => by
    simp only [PyData.canLayAll0, h x List.mem_cons_self, all_lay fun y m => h y (List.mem_cons_of_mem _ m), Bool.and_self]
theorem all_dep {D : Nat} : ∀ {xs : List PyData}, (∀ x ∈ xs, x.depth ≤ D) → PyData.depthAll xs ≤ D
  | [], _ => Nat.zero_le _
  | x :: xs, h => by
    simp only [PyData.depthAll]
    exact Nat.max_le.mpr ⟨h x List.mem_cons_self, all_dep fun y m => h y (List.mem_cons_of_mem _ m)⟩
theorem all_wt {W : Nat} : ∀ {xs : List PyData}, (∀ x ∈ xs, x.weight ≤ W) → PyData.weightAll xs ≤ xs.length * (W + 1)
  | [], _ => Nat.zero_le _
  | x :: xs, h => by
    have a := h x List.mem_cons_self
    have b := all_wt (xs := xs) fun y m => h y (List.mem_cons_of_mem _ m)
    simp only [PyData.weightAll, List.length_cons, Nat.add_mul]
    omega
theorem all_sw : ∀ {xs : List PyData}, (∀ x ∈ xs, x.showable = true) → PyData.showableAll xs = true
  | [], _ => rfl
  | x :: xs, h => by
    simp only [PyData.showableAll, h x List.mem_cons_self, all_sw fun y m => h y (List.mem_cons_of_mem _ m), Bool.and_self]
theorem sm_all {D W : Nat} {xs : List PyData} (h : ∀ x ∈ xs, Sm D W x) : PyData.canLayAll0 xs = true ∧ PyData.depthAll xs ≤ D ∧ PyData.weightAll xs ≤ xs.length * (W + 1) ∧ PyData.intsShortAll 13 xs = true ∧ PyData.showableAll xs = true :=
  ⟨all_lay fun x m => (h x m).lay, all_dep fun x m => (h x m).dep, all_wt fun x m => (h x m).wt, intsShortAll_of fun x m => (h x m).sh, all_sw fun x m => (h x m).sw⟩
theorem sm_list {D W D' W' n : Nat} {xs : List PyData} (h : ∀ x ∈ xs, Sm D W x) (hn : xs.length ≤ n) (hd : D + 1 ≤ D') (hw : n * (W + 1) ≤ W') : Sm D' W' (.list xs) := by
  obtain ⟨a, b, c, d, e⟩ := sm_all h
  refine ⟨by simpa only [PyData.canLay0] using a, ?_, ?_, by simpa only [PyData.intsShort] using d, by simpa only [PyData.showable] using e⟩
  · simp only [PyData.depth]
    omega
  · simp only [PyData.weight]
    have := Nat.mul_le_mul_right (W + 1) hn
    omega
theorem sm_tuple {D W D' W' n : Nat} {xs : List PyData} (h : ∀ x ∈ xs, Sm D W x) (hn : xs.length ≤ n) (hd : D + 1 ≤ D') (hw : n * (W + 1) ≤ W') : Sm D' W' (.tuple xs) := by
  obtain ⟨a, b, c, d, e⟩ := sm_all h
  refine ⟨by simpa only [PyData.canLay0] using a, ?_, ?_, by simpa only [PyData.intsShort] using d, by simpa only [PyData.showable] using e⟩
  · simp only [PyData.depth]
    omega
  · simp only [PyData.weight]
    have := Nat.mul_le_mul_right (W + 1) hn
    omega
theorem Sm.len {D W : Nat} {d : PyData} (h : Sm D W d) (hd : D ≤ 63) (hw : W ≤ 1048576) : d.shown.length ≤ 16777216 := by
  have l : PyData.layable0 d = true := by
    show (PyData.canLay0 d && decide (PyData.depth d ≤ 64) && decide (PyData.weight d ≤ 2 ^ 20)) = true
    have := h.dep
    have := h.wt
    simp only [Bool.and_eq_true, decide_eq_true_eq]
    exact ⟨⟨h.lay, by omega⟩, by omega⟩
  exact Nat.le_trans (shown_le13 l h.sh) (by decide)
theorem Sm.rp {D W : Nat} {d : PyData} (h : Sm D W d) (hd : D ≤ 63) (hw : W ≤ 1048576) (k : isDisp d = true) : RpOk d := ⟨h.lay, h.sw, k, Nat.le_trans h.dep hd, h.len hd hw⟩
/-- what _law_same can tell: m levels deep, no dict -/
def SameOk : Nat → PyData → Prop
  | _, .none => True
  | _, .bool _ => True
  | _, .int i => i.natAbs.log2 < 1920
  | _, .str s => (reprText s).length ≤ 16777216
  | m + 1, .list xs => xs.length ≤ 16000000 ∧ ∀ x ∈ xs, SameOk m x
  | m + 1, .tuple xs => xs.length ≤ 16000000 ∧ ∀ x ∈ xs, SameOk m x
  | _, _ => False
theorem wt_len : ∀ xs : List PyData, xs.length ≤ PyData.weightAll xs
  | [] => Nat.zero_le _
  | x :: xs => by
    have := wt_len xs
    simp only [PyData.weightAll, List.length_cons]
    omega
theorem parts_all {D W : Nat} {xs : List PyData} (a : PyData.canLayAll0 xs = true) (b : PyData.depthAll xs ≤ D) (c : PyData.weightAll xs ≤ W) (d : PyData.intsShortAll 13 xs = true) (e : PyData.showableAll xs = true) : ∀ x ∈ xs, Sm D W x := by
  induction xs with
  | nil => intro x m; cases m
  | cons y ys ih =>
    simp only [PyData.canLayAll0, Bool.and_eq_true] at a
    simp only [PyData.depthAll] at b
    simp only [PyData.weightAll] at c
    simp only [PyData.intsShortAll, Bool.and_eq_true] at d
    simp only [PyData.showableAll, Bool.and_eq_true] at e
    intro x m
    rcases List.mem_cons.mp m with m | m
    · subst m
      exact ⟨a.1, by omega, by omega, d.1, e.1⟩
    · exact ih a.2 (by omega) (by omega) d.2 e.2 x m
theorem Sm.same {W : Nat} (hw : W ≤ 1048576) : ∀ (m : Nat) {d : PyData}, m ≤ 63 → Sm m W d → SameOk m d
  | m, .none, _, _ => by cases m <;> exact trivial
  | m, .bool b, _, _ => by cases m <;> exact trivial
  | m, .int i, _, h => by
    have : i.natAbs.log2 < 1920 := by simpa only [PyData.showable, decide_eq_true_eq] using h.sw
    cases m <;> exact this
  | m, .str s, hm, h => by
    have := h.len hm hw
    simp only [PyData.shown] at this
    cases m <;> exact this
  | 0, .list xs, _, h => by have := h.dep; simp only [PyData.depth] at this; omega
  | 0, .tuple xs, _, h => by have := h.dep; simp only [PyData.depth] at this; omega
  | m, .dict _, _, h => by have := h.lay; simp [PyData.canLay0] at this
  | m + 1, .list xs, hm, h => by
    have a := h.dep
    have b := h.wt
    simp only [PyData.depth] at a
    simp only [PyData.weight] at b
    have c := wt_len xs
    exact ⟨by omega, fun x k => Sm.same hw m (by omega) (parts_all (by simpa only [PyData.canLay0] using h.lay) (by omega) b (by simpa only [PyData.intsShort] using h.sh) (by simpa only [PyData.showable] using h.sw) x k)⟩
  | m + 1, .tuple xs, hm, h => by
    have a := h.dep
    have b := h.wt
    simp only [PyData.depth] at a
    simp only [PyData.weight] at b
    have c := wt_len xs
    exact ⟨by omega, fun x k => Sm.same hw m (by omega) (parts_all (by simpa only [PyData.canLay0] using h.lay) (by omega) b (by simpa only [PyData.intsShort] using h.sh) (by simpa only [PyData.showable] using h.sw) x k)⟩
end DL

/-! The data layer: x += e, chains of two comparisons, str.index, {x:04d}. -/
namespace DL
open PySem PySem.Spec PyProof.Rows L2
section
variable {X : Cx} {ρ : DEnv}
def IaddW : G2
  | .int i, .int j, P => P (.int (i + j))
  | .str s, .str t, P => s.length + t.length ≤ 16777216 ∧ P (.str (s ++ t))
  | _, _, _ => False
theorem id_add : IpD X .Add IaddW := by
  refine ⟨fun x y H Q => ipI (fun i j => i + j) x y H Q ∨ ∃ i j, x = .str i ∧ y = .str j ∧ i.length + j.length ≤ sizeLine ∧ Q (.str (i ++ j)) H, fun pins s σ H x y v u Q I r1 r2 h => h.elim (ip_add pins s σ H x y v u Q I r1 r2) (iop_add_str pins s σ H x y v u Q I r1 r2), fun Hb H x y dx dy P Q a b s g k => ?_⟩
  cases a with
  | int i =>
    cases b with
    | int j => exact .inl ⟨i, j, rfl, rfl, k.val s (.int _) g⟩
    | _ => exact (show False from g).elim
  | str i =>
    cases b with
    | str j => exact .inr ⟨i, j, rfl, rfl, by rw [line_eq]; exact g.1, k.val s (.str _) g.2⟩
    | _ => exact (show False from g).elim
  | _ => exact (show False from g).elim
def IsubW : G2
  | .int i, .int j, P => P (.int (i - j))
  | _, _, _ => False
theorem id_sub : IpD X .Sub IsubW := by
  refine ⟨_, ip_sub, fun Hb H x y dx dy P Q a b s g k => ?_⟩
  cases a with
  | int i =>
    cases b with
    | int j => exact ⟨i, j, rfl, rfl, k.val s (.int _) g⟩
    | _ => exact (show False from g).elim
  | _ => exact (show False from g).elim
/-! chains of two -/
variable {a b c : Expr} {pos : Pos} {Post : PyData → DEnv → Prop}
theorem ew_chain {op op' : CmpOp} {g g' : G2} (ho : OpD X (compareOp op) g) (ho' : OpD X (compareOp op') g') (hm : lastMarks [op, op'] [b, c] = false)
    (h : EW X a ρ fun x ρ1 => EW X b ρ1 fun y ρ2 => g x y fun d => IsB d fun k => (k = true → EW X c ρ2 fun z ρ3 => g' y z fun d => Post d ρ3) ∧ (k = false → Post (.bool false) ρ2)) : EW X (.Compare a [op, op'] [b, c] pos) ρ Post := by
  obtain ⟨r, o, q⟩ := ho
  obtain ⟨r', o', q'⟩ := ho'
  refine EW.by (pe_chain o o' (pe_any a) (pe_any b) (pe_any c) hm) fun σ H Q ⟨Hb, ok, k⟩ => ?_
  refine h.go ok (Grow.refl _ _ _) (Like.refl _) fun v dv Hb1 H1 ρ1 ok1 g1 _ l1 d1 p1 => ?_
  refine p1.go ok1 g1 l1 fun w dw Hb2 H2 ρ2 ok2 g2 s2 l2 d2 p2 => ?_
  refine q Hb2 H2 v w dv dw _ _ (d1.mono (same_rd s2)) d2 ok2.sub p2 fun z dz Hb3 H3 s3 g3 d3 ⟨bz, e, p3, p4⟩ => ?_
  subst e
  cases d3
  have ok3 := ok2.grow g3 s3
  refine ⟨bz, rfl, ?_⟩
  cases bz with
  | false => exact k _ _ Hb3 H3 ρ2 ok3 (g2.trans0 g3) l2 (.bl false) (p4 rfl)
  | true =>
    rw [if_pos rfl]
    refine (p3 rfl).go ok3 (g2.trans0 g3) l2 fun u du Hb4 H4 ρ4 ok4 g4 s4 l4 d4 p4 => ?_
    exact q' Hb4 H4 w u dw du _ Q (d2.mono (same_rd (g3.per.trans s4))) d4 ok4.sub p4 (fin0 k ok4 g4 l4)
theorem tw_chain {op op' : CmpOp} {g g' : G2} {P : Bool → DEnv → Prop} (ho : OpD X (compareOp op) g) (ho' : OpD X (compareOp op') g') (hm : lastMarks [op, op'] [b, c] = false)
    (h : EW X a ρ fun x ρ1 => EW X b ρ1 fun y ρ2 => g x y fun d => IsB d fun k => (k = true → EW X c ρ2 fun z ρ3 => g' y z fun d => IsB d fun k => P k ρ3) ∧ (k = false → P false ρ2)) : TW X (.Compare a [op, op'] [b, c] pos) ρ P := by
  obtain ⟨r, o, q⟩ := ho
  obtain ⟨r', o', q'⟩ := ho'
  refine TW.by (pt_chain o o' (pe_any a) (pe_any b) (pe_any c) hm) fun σ H Q ⟨Hb, ok, k⟩ => ?_
  refine h.go ok (Grow.refl _ _ _) (Like.refl _) fun v dv Hb1 H1 ρ1 ok1 g1 _ l1 d1 p1 => ?_
  refine p1.go ok1 g1 l1 fun w dw Hb2 H2 ρ2 ok2 g2 s2 l2 d2 p2 => ?_
  refine q Hb2 H2 v w dv dw _ _ (d1.mono (same_rd s2)) d2 ok2.sub p2 fun z dz Hb3 H3 s3 g3 d3 ⟨bz, e, p3, p4⟩ => ?_
  subst e
  cases d3
  have ok3 := ok2.grow g3 s3
  refine ⟨bz, rfl, ?_⟩
  cases bz with
  | false => exact ⟨false, rfl, k false Hb3 H3 ρ2 ok3 (g2.trans0 g3) l2 (p4 rfl)⟩
  | true =>
    rw [if_pos rfl]
    refine (p3 rfl).go ok3 (g2.trans0 g3) l2 fun u du Hb4 H4 ρ4 ok4 g4 s4 l4 d4 p4 => ?_
    refine q' Hb4 H4 w u dw du _ _ (d2.mono (same_rd (g3.per.trans s4))) d4 ok4.sub p4 fun z dz Hb5 H5 s5 g5 d5 ⟨bz, e, pz⟩ => ?_
    subst e
    cases d5
    exact ⟨bz, rfl, k bz Hb5 H5 ρ4 (ok4.grow g5 s5) (g4.trans0 g5) l4 pz⟩
/-! str.index -/
def SindexW : PyData → GA
  | .str a, [.str b], P => ∃ i rest, Builtin.Str.occurrences a b 0 a.length 1 = i :: rest ∧ P (.int (i : Nat))
  | _, _, _ => False
theorem md_sindex : MetD X "str.index" SindexW := by
  refine ⟨_, mt_sindex, fun Hb H x xs d ds P Q a as s g k => ?_⟩
  cases a with
  | str a =>
    cases as with
    | nil => exact (show False from g).elim
    | cons h t =>
      cases t with
      | nil =>
        cases h with
        | str b =>
          obtain ⟨i, rest, e, p⟩ := g
          exact ⟨a, b, i, rest, rfl, rfl, e, k.val s (.int _) p⟩
        | _ => exact (show False from g).elim
      | cons _ _ => cases h <;> exact (show False from g).elim
  | _ => exact (show False from g).elim
end
end DL

/-! Texts as lists of signs: S l, and what the operators of texts do with it. -/
namespace DL
open PySem PySem.Spec PyProof.Rows L2
abbrev S (signs : List Nat) : Str := ⟨signs.toArray⟩
theorem S_len (l : List Nat) : (S l).length = l.length := by simp [S, Str.length]
theorem S_app (a b : List Nat) : S a ++ S b = S (a ++ b) := by
  show Str.append (S a) (S b) = S (a ++ b)
  simp [S, Str.append]
theorem S_inj {a b : List Nat} (h : S a = S b) : a = b := by simpa [S] using h
theorem S_dec (a b : List Nat) : decide (S a = S b) = decide (a = b) := by
  by_cases h : a = b
  · rw [h]; simp
  · rw [decide_eq_false h, decide_eq_false fun e => h (S_inj e)]
theorem S_eta (x : Str) : x = S x.cps.toList := by
  cases x
  simp [S]
theorem S_lit (s : String) : Str.ofString s = S (s.toList.map Char.toNat) := Str.ofString_eq_toList s
theorem S_sgn (l : List Nat) : signsOf (S l) = l.map fun c => .str (S [c]) := by simp [signsOf, S]
theorem S_join0 (xs : List (List Nat)) : Str.join Str.empty (xs.map S) = S xs.flatten := by
  induction xs with
  | nil => rfl
  | cons x r ih =>
    cases r with
    | nil =>
      show S x = S ([x].flatten)
      simp
    | cons y r =>
      show S x ++ Str.empty ++ Str.join Str.empty ((y :: r).map S) = _
      rw [ih, show (Str.empty : Str) = S [] from rfl, S_app, S_app]
      simp
/-! slices -/
theorem S_cut (l : List Nat) (lo hi : Option Int) : cutS (S l) lo hi = S ((l.drop (HT.sIx l.length 0 lo)).take (HT.sIx l.length l.length hi - HT.sIx l.length 0 lo)) := by
  unfold cutS
  rw [S_len]
theorem S_cutN (l : List Nat) (i j : Nat) : cutS (S l) (some (i : Int)) (some (j : Int)) = S ((l.drop i).take (j - i)) := by
  rw [S_cut, HT.sIx_nat, HT.sIx_nat]
  by_cases hi : i ≤ l.length
  · rw [Nat.min_eq_left hi]
    by_cases hj : j ≤ l.length
    · rw [Nat.min_eq_left hj]
    · rw [Nat.min_eq_right (by omega), List.take_of_length_le (by rw [List.length_drop]; omega), List.take_of_length_le (by rw [List.length_drop]; omega)]
  · rw [Nat.min_eq_right (show l.length ≤ i by omega), List.drop_length, List.drop_of_length_le (show l.length ≤ i by omega)]
    simp
theorem S_cutD (l : List Nat) (i : Nat) : cutS (S l) (some (i : Int)) none = S (l.drop i) := by
  rw [S_cut, HT.sIx_nat, HT.sIx_none]
  by_cases hi : i ≤ l.length
  · rw [Nat.min_eq_left hi, List.take_of_length_le (by rw [List.length_drop]; omega)]
  · rw [Nat.min_eq_right (show l.length ≤ i by omega), List.drop_length, List.drop_of_length_le (show l.length ≤ i by omega)]
    simp
theorem S_cutT (l : List Nat) (j : Nat) : cutS (S l) none (some (j : Int)) = S (l.take j) := by
  rw [S_cut, HT.sIx_nat, HT.sIx_none, List.drop_zero, Nat.sub_zero]
  by_cases hj : j ≤ l.length
  · rw [Nat.min_eq_left hj]
  · rw [Nat.min_eq_right (show l.length ≤ j by omega), List.take_of_length_le (Nat.le_refl _), List.take_of_length_le (show l.length ≤ j by omega)]
/-- the last k -/
theorem S_cutL (l : List Nat) (k : Nat) (hk : 0 < k) (h : k ≤ l.length) : cutS (S l) (some (-(k : Int))) none = S (l.drop (l.length - k)) := by
  rw [S_cut, HT.sIx_none]
  have e : HT.sIx l.length 0 (some (-(k : Int))) = l.length - k := by
    show (if (-(k : Int)) < 0 then ((-(k : Int)) + (l.length : Int)).toNat else min (-(k : Int)).toNat l.length) = _
    rw [if_pos (by omega)]
    omega
  rw [e, List.take_of_length_le (by rw [List.length_drop]; omega)]
theorem S_at {l : List Nat} {i : Nat} {c : Nat} (h : l[i]? = some c) : atI (S l).cps.toList (i : Int) = some c := by
  have e : (S l).cps.toList = l := by simp [S]
  rw [e]
  exact atI_nat h
/-! a sign in a text -/
theorem S_in (l : List Nat) (c : Nat) : (!(Builtin.Str.occurrences (S l) (S [c]) 0 (S l).length 1).isEmpty) = decide (c ∈ l) := by
  have h := StrLaws.found_one (S l) c
  have e : (S l).cps.toList = l := by simp [S]
  rw [e] at h
  exact h
theorem S_index {l : List Nat} {c : Nat} (h : c ∈ l) : ∃ i rest, Builtin.Str.occurrences (S l) (S [c]) 0 (S l).length 1 = i :: rest ∧ l[i]? = some c ∧ ∀ k, k < i → l[k]? ≠ some c := by
  have e : (S l).cps.toList = l := by simp [S]
  rcases StrLaws.occ_head (S l) (S [c]) 1 (Nat.le_refl _) with ⟨_, hn⟩ | ⟨i, r, h0, ha, hn⟩
  · obtain ⟨i, hi⟩ := List.mem_iff_getElem?.mp h
    refine absurd ((StrLaws.subAt_one (S l) c i).mpr ?_) (hn i)
    rw [e]
    exact hi
  · refine ⟨i, r, h0, ?_, fun k hk q => hn k hk ((StrLaws.subAt_one (S l) c k).mpr ?_)⟩
    · have z := (StrLaws.subAt_one (S l) c i).mp ha
      rw [e] at z
      exact z
    · rw [e]
      exact q
/-! one sign put as a text -/
def subst1 (c : Nat) (z l : List Nat) : List Nat := l.flatMap fun k => if k = c then z else [k]
theorem subst1_app (c : Nat) (z a b : List Nat) : subst1 c z (a ++ b) = subst1 c z a ++ subst1 c z b := by simp [subst1]
theorem subst1_free {c : Nat} {z : List Nat} : ∀ {l : List Nat}, c ∉ l → subst1 c z l = l
  | [], _ => rfl
  | a :: l, h => by
    have h1 : a ≠ c := fun e => h (e ▸ List.mem_cons_self)
    have ih := subst1_free (c := c) (z := z) (l := l) fun m => h (List.mem_cons_of_mem _ m)
    unfold subst1 at ih ⊢
    rw [List.flatMap_cons, if_neg h1, ih]
    rfl
theorem subst1_join (c : Nat) (z : List Nat) : ∀ (xs : List Str), (∀ p ∈ xs, c ∉ p.cps.toList) → subst1 c z (Str.join (S [c]) xs).cps.toList = (Str.join (S z) xs).cps.toList
  | [], _ => rfl
  | [x], h => subst1_free (h x List.mem_cons_self)
  | x :: y :: r, h => by
    have ih := subst1_join c z (y :: r) fun p m => h p (List.mem_cons_of_mem _ m)
    show subst1 c z (x ++ S [c] ++ Str.join (S [c]) (y :: r)).cps.toList = (x ++ S z ++ Str.join (S z) (y :: r)).cps.toList
    have ca : ∀ a b : Str, (a ++ b).cps.toList = a.cps.toList ++ b.cps.toList := fun a b => by
      show (a.cps ++ b.cps).toList = _
      simp
    rw [ca, ca, ca, ca, subst1_app, subst1_app, ih, subst1_free (h x List.mem_cons_self)]
    have e1 : subst1 c z (S [c]).cps.toList = z := by simp [subst1, S]
    rw [e1]
theorem S_replace (l z : List Nat) (c : Nat) : Txt.replace (S l) (S [c]) (S z) = S (subst1 c z l) := by
  have h1 := StrLaws.replace_one (S l) (S z) c
  have h2 := subst1_join c z (Txt.split (S l) (S [c])) (StrLaws.split_free (S l) c)
  rw [StrLaws.join_split] at h2
  have e : (S l).cps.toList = l := by simp [S]
  rw [e] at h2
  rw [h1, S_eta (Str.join (S z) _)]
  exact congrArg S h2.symm
/-! numbers as texts -/
def dig (n : Nat) : List Nat := (Nat.toDigits 10 n).map Char.toNat
theorem dig_str (n : Nat) : Str.ofString (toString (n : Int)) = S (dig n) := text_ofNat n
theorem dig_len (n : Nat) : (dig n).length = (Nat.toDigits 10 n).length := by unfold dig; rw [List.length_map]
theorem dig_pos (n : Nat) : 1 ≤ (dig n).length := by rw [dig_len]; exact (digitsFacts10 n).ge1
theorem dig_le {n : Nat} (h : n < 10000) : (dig n).length ≤ 4 := by rw [dig_len]; exact (digitsFacts10 n).lt10000 h
theorem dig_fig (n : Nat) : ∀ c ∈ dig n, 48 ≤ c ∧ c ≤ 57 := fun c m => by
  obtain ⟨d, hd, e⟩ := List.mem_map.mp m
  rw [← e]
  have h := Nat.isDigit_of_mem_toDigits (by decide) (by decide) hd
  simp only [Char.isDigit, decide_eq_true_eq, Bool.and_eq_true] at h
  obtain ⟨h1, h2⟩ := h
  have h1 : (48 : UInt32).toNat ≤ d.val.toNat := h1
  have h2 : d.val.toNat ≤ (57 : UInt32).toNat := h2
  exact ⟨h1, h2⟩
/-- four figures -/
def chk4 (n : Nat) : List Nat := List.replicate (4 - (dig n).length) 48 ++ dig n
theorem chk4_len {n : Nat} (h : n < 10000) : (chk4 n).length = 4 := by
  unfold chk4
  have := dig_le h
  simp only [List.length_append, List.length_replicate]
  omega
theorem chk4_fig {n : Nat} : ∀ c ∈ chk4 n, 48 ≤ c ∧ c ≤ 57 := fun c m => by
  rcases List.mem_append.mp m with m | m
  · rw [(List.mem_replicate.mp m).2]
    omega
  · exact dig_fig n c m
theorem chk4_cut {n : Nat} (h : n < 10000) : ((List.replicate 3 48 ++ dig n).drop ((List.replicate 3 48 ++ dig n).length - 4)) = chk4 n := by
  have h1 := dig_le h
  have h2 := dig_pos n
  rw [List.length_append, List.length_replicate, List.drop_append, List.drop_replicate, List.length_replicate]
  unfold chk4
  rw [show 3 - (3 + (dig n).length - 4) = 4 - (dig n).length by omega, show 3 + (dig n).length - 4 - 3 = 0 by omega, List.drop_zero]
end DL

/-! {x:04d} -/
namespace DL
open PySem PySem.Spec PySem.Builtin PySem.Builtin.Float PyProof.Rows L2
def f04 : FormatSpec := { fill := 48, align := 61, width := some 4, type := some 100 }
theorem f04_of : parseFormatSpec (Str.ofString "04d").cps.toList "int" 62 = .ok f04 := by rfl
theorem small_log {a : Int} (h0 : 0 ≤ a) (h1 : a < 10000) : a.natAbs.log2 < 1920 := by
  have h : a.natAbs < 10000 := by omega
  by_cases z : a.natAbs = 0
  · rw [z]; decide
  · exact (Nat.log2_lt z).mpr (Nat.lt_of_lt_of_le h (Nat.le_trans (by decide : 10000 ≤ 2 ^ 14) (Nat.pow_le_pow_right (n := 2) (by decide) (Nat.le_of_ble_eq_true rfl))))
section
variable {prog : Program} {w : World} {A : Around} {s : Shared} {E : Value → Shared → Prop}
theorem fmt04 {a : Int} {t : Tok} {Q : Value → Shared → Prop} (h0 : 0 ≤ a) (h1 : a < 10000)
    (h : Q (.str (intSpecText f04 a) (s.toks + 1)) { s with toks := s.toks + 1 + 1 }) : wpAny (model prog w) A (formatField (.int a t) (Str.ofString "04d")) Q E s := by
  have hf := f04_of
  have hlen : (intSpecText f04 a).length ≤ sizeLine := by
    rw [intSpecText_length a rfl rfl, sizeLine_eq]
    have := (digitsFacts10 a.natAbs).lt10000 (by omega)
    have e : f04.width.getD 0 = 4 := rfl
    rw [e]
    split <;> omega
  show wpAny _ _ (holding [.int a t] (pyFormat (.int a t) (Str.ofString "04d"))) Q E s
  refine wpAny_holding ?_
  unfold pyFormat
  refine wpAny_bind (wpAny_mkStr ?_ (show (Str.ofString "04d").length ≤ sizeLine by decide))
  have T : ∀ s' : Shared, s'.TypeIs (.int a t) "int" := fun s' => typeIs_int s' a t
  refine wpAny_bind (m := callSpecial? (.int a t) (Str.ofString "__format__") [.str _ _]) (wpAny_callSpecial?_slot (name := Str.ofString "__format__") (T _) F.slot_int_format ?_)
  refine wpAny_call (codeAny_call_builtin F.slot_int_format.plain F.entry_int_format (F.slot_int_format.check _ _ _ _ _ _ _ _ (T _) (F.args_int_format_2 _ _) ?_))
  delta Builtin.«int.__format__»
  simp only [selfAndOne, noKeywords, Int.intOfSelf, asInt?, asStr?, List.isEmpty_nil, if_true, pure_bind, bind_pure, bind_assoc, show (Value.str (Str.ofString "04d") s.toks == Value.none) = false from rfl, Bool.false_eq_true, if_false]
  refine wpAny_bind (m := typeNameOf _) (wpAny_typeNameOf (typeIs_str _ _ _) (T := "str") (by decide) fun _ => ?_)
  rw [if_neg (show ¬ ((Str.ofString "04d").length == 0) = true by decide)]
  refine iteInduction (motive := fun m => wpAny _ _ m _ _ _) (fun z => absurd z (by decide +kernel)) fun _ => ?_
  first | refine wpAny_bind (m := typeNameOfCut _ _) (wpAny_typeNameOfCut_int ?_) | refine wpAny_bind (m := typeNameOfCut _ _) (wpAny_typeNameOf_int ?_)
  rw [hf]
  refine iteInduction (motive := fun m => wpAny _ _ m _ _ _) (fun _ => ?_) fun z => absurd (show _ = true by decide +kernel) z
  show wpAny _ _ (do let over ← Builtin.overDigitLimit? a; _) _ _ _
  rw [PySem.overDigitLimit_small (small_log h0 h1)]
  refine wpAny_bind (m := pure none) (wpAny_pure ?_)
  show wpAny _ _ (retStr (_ : Str)) _ _ _
  refine (fun (z : Str) (e : z = intSpecText f04 a) => (?_ : wpAny _ _ (retStr z) _ _ _)) _ ?eq
  case eq =>
    unfold intSpecText
    rw [decide_eq_false (show ¬ a < 0 by omega)]
    generalize (Nat.toDigits 10 a.natAbs) = l
    rfl
  subst e
  unfold retStr
  exact wpAny_bind (wpAny_mkStr (wpAny_pure (wpAny_bind (wpAny_isInstance (typeIs_str _ _ _) isSubtype_str_str (wpAny_pure h)))) hlen)
end
end DL

/-! f"{x:04d}" by data; a def whose body wants a token. -/
namespace DL
open PySem PySem.Spec PyProof.Rows L2
theorem text04 {n : Nat} : intSpecText f04 (n : Int) = S (chk4 n) := by
  rw [intSpecText_zero rfl rfl rfl rfl (by omega), dig_str]
  show S (List.replicate (4 - (Nat.toDigits 10 (n : Int).natAbs).length) 48) ++ S (dig n) = _
  rw [S_app, Int.natAbs_natCast, ← dig_len]
  rfl
section
variable {X : Cx} {ρ : DEnv}
theorem pe_f04 {e : Expr} {te : TE} {j : Nat} {p1 p2 pos : Pos} (he : PE X e te) : PE X (.FormattedValue e (-1) (some (.JoinedStr [.Constant (.str "04d") j p1] p2)) pos) (fun σ H Q => te σ H fun v H' => ∃ n : Nat, v = .int n ∧ n < 10000 ∧ Q (.str (S (chk4 n))) H') := by
  constructor
  intro pins s σ H Q I h
  refine wpAny_FormattedValue_spec (thn (he.run pins s σ H _ I h) fun v s1 ⟨x, H1, I1, r1, n, e1, hn, q⟩ => ?_)
  subst e1
  obtain ⟨t, rfl⟩ := r1
  refine wpAny_JoinedStr_one (Calls.Constant_str ⟨_, _, rfl, fmt04 (by omega) (by omega) ?_⟩)
  rw [text04]
  exact ⟨.str _, H1, I1.tok _, ⟨_, rfl⟩, q⟩
theorem ew_f04 {e : Expr} {j : Nat} {p1 p2 pos : Pos} {Post : PyData → DEnv → Prop} (h : EW X e ρ fun d ρ' => ∃ n : Nat, d = .int n ∧ n < 10000 ∧ Post (.str (S (chk4 n))) ρ') :
    EW X (.FormattedValue e (-1) (some (.JoinedStr [.Constant (.str "04d") j p1] p2)) pos) ρ Post := by
  refine EW.by (pe_f04 (pe_any e)) fun σ H Q ⟨Hb, ok, k⟩ => ?_
  refine h.go ok (Grow.refl _ _ _) (Like.refl _) fun v d Hb1 H1 ρ1 ok1 g1 _ l1 d1 ⟨n, e, hn, p1⟩ => ?_
  subst e
  cases d1
  exact ⟨n, rfl, hn, (fin0 k ok1 g1 l1).val ok1.sub (.str _) p1⟩
end
section
variable {P : Program} {w : World} {K : PySem.W.Frag} {mg : Str → Option Value} {base : Heap}
/-- a def with a parameter: a token is out when its body begins -/
theorem fg_tok {x qual : Str} {st : Stmt} {f : Addr} {fd : FuncData} {N ps : List Str} {k : Nat} {W : GA} (F : Fun K x qual st f fd) (S : FnScope N ps (defScope st)) (nc : ∀ y ∈ (defScope st).names, y.2 ≠ .cell) (hps : 1 ≤ ps.length) (len : ∀ ds post, W ds post → ds.length = ps.length)
    (hbody : ∀ (cdv : Value) (A : Around) (outer : List Env) (s : Shared) (H Hb : Hp) (E : XK) (vs : List V) (ds : List PyData) (post : PyData → Prop) (Q : VK), Room k (A.deeper (envOfC qual (defScope st) s.heap.objs.size f cdv)) → Sub Hb H → DaAll K Hb vs ds → W ds post → Ret K Hb H post Q →
      ∃ t, PSsT (cxOf CX0 P w K mg base N qual (defScope st) f cdv A outer s H E) (defBody st) t ∧ t { nx := fun _ H' => Q .non H', rt := Q } (L2.start N vs) H) : FnG P w K mg base (k + 1) f fd ps (SpP K W) := by
  obtain ⟨oc, od, kV, doc, pm, an, cdv, ct, osl, efd, lk, hcd⟩ := F.ex
  subst efd
  have G : FnOk P w K mg base CX0 (k + 1) f _ ps (SpP K W) := fn_ofT lk hcd S nc hps (fun vs H Q E ⟨Hb, ds, R, _, h, q, _⟩ => h.length.trans (len ds _ q)) fun A outer s H vs Q E hr ⟨Hb, ds, R, sb, h, q, r⟩ => hbody cdv A outer s H Hb E vs ds R Q hr sb h q r
  exact ⟨G.len, fun A o s H a us vs Q E r _ => G.run A o s H a us vs Q E r⟩
end
end DL

/-! Escapes, checks, records as lists of signs. -/
namespace DL
open PySem PySem.Spec PyProof.Rows L2
/-! escapes -/
def esc1 (c : Nat) : List Nat := if c = 92 then [92, 92] else if c = 10 then [92, 110] else [c]
def esc (l : List Nat) : List Nat := l.flatMap esc1
theorem esc_cons (c : Nat) (l : List Nat) : esc (c :: l) = esc1 c ++ esc l := List.flatMap_cons
theorem esc_snoc (l : List Nat) (c : Nat) : esc (l ++ [c]) = esc l ++ esc1 c := by simp [esc]
theorem esc_subst (l : List Nat) : subst1 10 [92, 110] (subst1 92 [92, 92] l) = esc l := by
  induction l with
  | nil => rfl
  | cons c l ih =>
    have e : subst1 92 [92, 92] (c :: l) = (if c = 92 then [92, 92] else [c]) ++ subst1 92 [92, 92] l := List.flatMap_cons
    rw [e, subst1_app, ih, esc_cons]
    refine congrArg (· ++ esc l) ?_
    unfold esc1
    by_cases h : c = 92
    · rw [if_pos h, if_pos h]
      rfl
    · rw [if_neg h, if_neg h]
      by_cases k : c = 10
      · subst k
        rfl
      · rw [if_neg k]
        simp [subst1, k]
theorem esc1_len (c : Nat) : 1 ≤ (esc1 c).length ∧ (esc1 c).length ≤ 2 := by
  unfold esc1
  split
  · exact ⟨by decide, by decide⟩
  · split
    · exact ⟨by decide, by decide⟩
    · simp
theorem esc_len (l : List Nat) : (esc l).length ≤ 2 * l.length := by
  induction l with
  | nil => exact Nat.le_refl _
  | cons c l ih =>
    rw [esc_cons, List.length_append, List.length_cons]
    have := (esc1_len c).2
    omega
theorem subst_len (c : Nat) (z : List Nat) (k : Nat) (hz : z.length ≤ k + 1) (l : List Nat) : (subst1 c z l).length ≤ (k + 1) * l.length := by
  induction l with
  | nil => exact Nat.zero_le _
  | cons a l ih =>
    have e : subst1 c z (a :: l) = (if a = c then z else [a]) ++ subst1 c z l := List.flatMap_cons
    rw [e, List.length_append, List.length_cons, Nat.mul_succ]
    have : (if a = c then z else [a]).length ≤ k + 1 := by
      split
      · exact hz
      · simp
    omega
theorem esc_free {l : List Nat} : 10 ∉ esc l := by
  induction l with
  | nil => exact List.not_mem_nil
  | cons c l ih =>
    rw [esc_cons]
    intro m
    rcases List.mem_append.mp m with m | m
    · unfold esc1 at m
      split at m
      · simp at m
      · split at m
        · simp at m
        · rename_i h
          exact h (List.mem_singleton.mp m).symm
    · exact ih m
theorem esc_lt {l : List Nat} (h : ∀ c ∈ l, c < 128) : ∀ c ∈ esc l, c < 128 := by
  induction l with
  | nil => intro c m; cases m
  | cons a l ih =>
    intro c m
    rw [esc_cons] at m
    rcases List.mem_append.mp m with m | m
    · have ha := h a List.mem_cons_self
      unfold esc1 at m
      split at m
      · simp at m; omega
      · split at m
        · simp at m; omega
        · rw [List.mem_singleton.mp m]
          exact ha
    · exact ih (fun c m => h c (List.mem_cons_of_mem _ m)) c m
def unesc : List Nat → Option (List Nat)
  | [] => some []
  | c :: r => if c = 10 then none else if c = 92 then
      (match r with
      | [] => none
      | d :: r' => if d = 92 then (unesc r').map (92 :: ·) else if d = 110 then (unesc r').map (10 :: ·) else none)
    else (unesc r).map (c :: ·)
theorem unesc_nl (r : List Nat) : unesc (10 :: r) = none := by rw [unesc.eq_def]; rfl
theorem unesc_bs (r : List Nat) : unesc (92 :: 92 :: r) = (unesc r).map (92 :: ·) := by rw [unesc]; rfl
theorem unesc_bn (r : List Nat) : unesc (92 :: 110 :: r) = (unesc r).map (10 :: ·) := by rw [unesc]; rfl
theorem unesc_b1 : unesc [92] = none := by rw [unesc]; rfl
theorem unesc_bx {d : Nat} (r : List Nat) (h1 : d ≠ 92) (h2 : d ≠ 110) : unesc (92 :: d :: r) = none := by
  rw [unesc.eq_def]
  show (if d = 92 then _ else if d = 110 then _ else none) = none
  rw [if_neg h1, if_neg h2]
theorem unesc_ot {c : Nat} (r : List Nat) (h1 : c ≠ 10) (h2 : c ≠ 92) : unesc (c :: r) = (unesc r).map (c :: ·) := by
  rw [unesc.eq_def]
  dsimp only
  rw [if_neg h1, if_neg h2]
theorem unesc_esc (f : List Nat) : unesc (esc f) = some f := by
  induction f with
  | nil => rw [esc]; rfl
  | cons c f ih =>
    rw [esc_cons]
    unfold esc1
    by_cases h : c = 92
    · subst h
      rw [if_pos rfl]
      show unesc (92 :: 92 :: esc f) = _
      rw [unesc_bs, ih]
      rfl
    · rw [if_neg h]
      by_cases k : c = 10
      · subst k
        rw [if_pos rfl]
        show unesc (92 :: 110 :: esc f) = _
        rw [unesc_bn, ih]
        rfl
      · rw [if_neg k]
        show unesc (c :: esc f) = _
        rw [unesc_ot _ k h, ih]
        rfl
theorem esc_unesc : ∀ (n : Nat) (l f : List Nat), l.length ≤ n → unesc l = some f → esc f = l
  | _, [], f, _, h => by
    rw [unesc] at h
    cases h
    rfl
  | 0, _ :: _, _, hn, _ => by simp at hn
  | n + 1, c :: r, f, hn, h => by
    have hn : r.length ≤ n := by simpa using hn
    by_cases k : c = 10
    · subst k
      rw [unesc_nl] at h
      cases h
    · by_cases b : c = 92
      · subst b
        cases r with
        | nil =>
          rw [unesc_b1] at h
          cases h
        | cons d r =>
          have hn' : r.length ≤ n := by simp at hn; omega
          by_cases h1 : d = 92
          · subst h1
            rw [unesc_bs] at h
            obtain ⟨g, hg, rfl⟩ := Option.map_eq_some_iff.mp h
            rw [esc_cons, esc_unesc n r g hn' hg]
            rfl
          · by_cases h2 : d = 110
            · subst h2
              rw [unesc_bn] at h
              obtain ⟨g, hg, rfl⟩ := Option.map_eq_some_iff.mp h
              rw [esc_cons, esc_unesc n r g hn' hg]
              rfl
            · rw [unesc_bx r h1 h2] at h
              cases h
      · rw [unesc_ot r k b] at h
        obtain ⟨g, hg, rfl⟩ := Option.map_eq_some_iff.mp h
        rw [esc_cons, esc_unesc n r g hn hg]
        unfold esc1
        rw [if_neg b, if_neg k]
        rfl
/-- sign by sign, as a law's hand reads -/
def scan1 (s : List Nat × Bool) (c : Nat) : List Nat × Bool := (if s.2 then s.1 ++ [if c = 110 then 10 else c] else if c = 92 then s.1 else s.1 ++ [c], decide (c = 92) && !s.2)
def scan (l : List Nat) : List Nat × Bool := l.foldl scan1 ([], false)
theorem scan_esc : ∀ (f g : List Nat), (esc f).foldl scan1 (g, false) = (g ++ f, false)
  | [], g => by simp [esc]
  | c :: f, g => by
    rw [esc_cons, List.foldl_append]
    have e : (esc1 c).foldl scan1 (g, false) = (g ++ [c], false) := by
      unfold esc1
      by_cases h : c = 92
      · subst h
        rfl
      · rw [if_neg h]
        by_cases k : c = 10
        · subst k
          rfl
        · rw [if_neg k]
          show (if c = 92 then g else g ++ [c], decide (c = 92) && true) = _
          rw [if_neg h, decide_eq_false h]
          rfl
    rw [e, scan_esc f (g ++ [c])]
    simp
theorem scan_unesc (l : List Nat) : (if (scan l).2 = false ∧ esc (scan l).1 = l then some (scan l).1 else none) = unesc l := by
  cases h : unesc l with
  | some f =>
    have e := esc_unesc l.length l f (Nat.le_refl _) h
    have s : scan l = (f, false) := by
      unfold scan
      rw [← e, scan_esc]
      rfl
    rw [s]
    exact if_pos ⟨rfl, e⟩
  | none =>
    refine if_neg fun ⟨_, e⟩ => ?_
    have := unesc_esc (scan l).1
    rw [e, h] at this
    cases this
theorem scan_len (l : List Nat) : ∀ s : List Nat × Bool, (l.foldl scan1 s).1.length ≤ s.1.length + l.length := by
  induction l with
  | nil => intro s; exact Nat.le_refl _
  | cons c l ih =>
    intro s
    refine Nat.le_trans (ih (scan1 s c)) ?_
    have : (scan1 s c).1.length ≤ s.1.length + 1 := by
      unfold scan1
      dsimp only
      split
      · simp
      · split <;> simp
    rw [List.length_cons]
    omega
theorem scan_lt (l : List Nat) : ∀ s : List Nat × Bool, (∀ c ∈ l, c < 128) → (∀ c ∈ s.1, c < 128) → ∀ c ∈ (l.foldl scan1 s).1, c < 128 := by
  induction l with
  | nil => intro s _ h; exact h
  | cons c l ih =>
    intro s h1 h2
    refine ih (scan1 s c) (fun c m => h1 c (List.mem_cons_of_mem _ m)) ?_
    have hc := h1 c List.mem_cons_self
    intro d m
    unfold scan1 at m
    dsimp only at m
    split at m
    · rcases List.mem_append.mp m with m | m
      · exact h2 d m
      · rw [List.mem_singleton.mp m]
        split <;> omega
    · split at m
      · exact h2 d m
      · rcases List.mem_append.mp m with m | m
        · exact h2 d m
        · rw [List.mem_singleton.mp m]
          exact hc
/-! checks -/
def chkN (l : List Nat) : Nat := l.foldl (fun m c => (m * 131 + c) % 9973) 1
theorem chkN_lt (l : List Nat) : chkN l < 9973 := by
  have h : ∀ (l : List Nat) (m : Nat), m < 9973 → l.foldl (fun m c => (m * 131 + c) % 9973) m < 9973 := by
    intro l
    induction l with
    | nil => intro m h; exact h
    | cons c l ih => intro m h; exact ih _ (Nat.mod_lt _ (by decide))
  exact h l 1 (by decide)
def chkT (l : List Nat) : List Nat := chk4 (chkN l)
theorem chkT_len (l : List Nat) : (chkT l).length = 4 := chk4_len (Nat.lt_trans (chkN_lt l) (by decide))
theorem chkT_fig (l : List Nat) : ∀ c ∈ chkT l, 48 ≤ c ∧ c ≤ 57 := chk4_fig
/-! records -/
inductive Deed where
  | add (l : List Nat)
  | drop (n : Nat)
def Deed.data : Deed → PyData
  | .add l => .tuple [.str "add", .str (S l)]
  | .drop n => .tuple [.str "drop", .int (n : Int)]
def bodyT : Deed → List Nat
  | .add l => 43 :: esc l
  | .drop n => 45 :: dig n
def sealT (b : List Nat) : List Nat := chkT b ++ b ++ [10]
def recT (d : Deed) : List Nat := sealT (bodyT d)
def FigOk (f : List Nat) : Prop := (1 ≤ f.length ∧ f.length ≤ 4) ∧ ∀ c ∈ f, 48 ≤ c ∧ c ≤ 57
instance (f : List Nat) : Decidable (FigOk f) := by unfold FigOk; exact inferInstance
/-- what stands behind the check -/
def readB (b : List Nat) : Option Deed :=
  if b.headD 0 = 43 then (unesc b.tail).map .add
  else if b.headD 0 = 45 ∧ FigOk b.tail ∧ ¬ (1 < b.tail.length ∧ b.tail.headD 0 = 48) then some (.drop (NumText.digitsVal b.tail)) else none
def rowN (r : List Nat) : Nat := (r.takeWhile fun c => !decide (c = 10)).length
def readR (r : List Nat) : Option (Deed × Nat) :=
  if rowN r = r.length then none else if ((r.take (rowN r)).drop 4).length = 0 ∨ r.take 4 ≠ chkT ((r.take (rowN r)).drop 4) then none else (readB ((r.take (rowN r)).drop 4)).map fun d => (d, rowN r + 1)
theorem rowN_le (r : List Nat) : rowN r ≤ r.length := (List.takeWhile_prefix _).length_le
theorem rowN_of : ∀ (r : List Nat) (n : Nat), (∀ k, k < n → r[k]? ≠ some 10) → (n = r.length ∨ r[n]? = some 10) → rowN r = n
  | [], n, _, h => by
    rcases h with h | h
    · exact h.symm
    · simp at h
  | c :: r, 0, _, h => by
    rcases h with h | h
    · simp at h
    · have : c = 10 := by simpa using h
      subst this
      rfl
  | c :: r, n + 1, h1, h => by
    have hc : c ≠ 10 := by simpa using h1 0 (by omega)
    have ih := rowN_of r n (fun k hk => by simpa using h1 (k + 1) (by omega)) (by simpa using h)
    unfold rowN at ih ⊢
    rw [List.takeWhile_cons, if_pos (by simpa using hc), List.length_cons, ih]
theorem rowN_app {a : List Nat} (h : 10 ∉ a) (t : List Nat) : rowN (a ++ 10 :: t) = a.length := by
  refine rowN_of _ _ (fun k hk e => h ?_) (.inr ?_)
  · rw [List.getElem?_append_left hk] at e
    exact List.mem_of_getElem? e
  · rw [List.getElem?_append_right (Nat.le_refl _)]
    simp
theorem rowN_free {a : List Nat} (h : 10 ∉ a) : rowN a = a.length := rowN_of _ _ (fun k _ e => h (List.mem_of_getElem? e)) (.inl rfl)
theorem chkT_free (l : List Nat) : 10 ∉ chkT l := fun m => by have := chkT_fig l 10 m; omega
def DeedOk : Deed → Prop
  | .add l => l.length ≤ 100 ∧ ∀ c ∈ l, c < 128
  | .drop n => n ∈ [0, 3, 7, 10, 999, 9999]
theorem bodyT_free {d : Deed} : 10 ∉ bodyT d := by
  cases d with
  | add l =>
    intro m
    rcases List.mem_cons.mp m with m | m
    · cases m
    · exact esc_free m
  | drop n =>
    intro m
    rcases List.mem_cons.mp m with m | m
    · cases m
    · have := dig_fig n 10 m
      omega
theorem readB_body {d : Deed} (h : DeedOk d) : readB (bodyT d) = some d := by
  cases d with
  | add l =>
    show (if (43 : Nat) = 43 then (unesc (esc l)).map Deed.add else _) = _
    rw [if_pos rfl, unesc_esc]
    rfl
  | drop n =>
    simp only [DeedOk, List.mem_cons, List.not_mem_nil, or_false] at h
    rcases h with rfl | rfl | rfl | rfl | rfl | rfl <;> rfl
theorem readR_rec {d : Deed} (h : DeedOk d) (t : List Nat) : readR (recT d ++ t) = some (d, (recT d).length) := by
  have hf : 10 ∉ chkT (bodyT d) ++ bodyT d := fun m => (List.mem_append.mp m).elim (chkT_free _) bodyT_free
  have e : recT d ++ t = (chkT (bodyT d) ++ bodyT d) ++ 10 :: t := by
    unfold recT sealT
    simp
  have hn : rowN (recT d ++ t) = (chkT (bodyT d) ++ bodyT d).length := by rw [e, rowN_app hf]
  have hb : ((recT d ++ t).take (rowN (recT d ++ t))).drop 4 = bodyT d := by
    rw [hn, e, List.take_append_of_le_length (Nat.le_refl _), List.take_length, List.drop_append_of_le_length (by rw [chkT_len]; exact Nat.le_refl _), ← chkT_len (bodyT d), List.drop_length]
    rfl
  have hc : (recT d ++ t).take 4 = chkT (bodyT d) := by
    rw [e, List.append_assoc, List.take_append_of_le_length (by rw [chkT_len]; exact Nat.le_refl _), ← chkT_len (bodyT d), List.take_length]
  have hp : 0 < (bodyT d).length := by cases d <;> exact Nat.succ_pos _
  unfold readR
  rw [hb, hc, if_neg, if_neg, readB_body h, hn]
  · show some (d, (chkT (bodyT d) ++ bodyT d).length + 1) = _
    unfold recT sealT
    simp only [List.length_append, List.length_singleton]
  · rintro (z | z)
    · omega
    · exact z rfl
  · rw [hn, e]
    simp
theorem readR_free {r : List Nat} (h : 10 ∉ r) : readR r = none := by
  unfold readR
  rw [if_pos (rowN_free h)]
def readD (at_ : Nat) : Option (Deed × Nat) → PyData
  | none => .none
  | some (d, n) => .tuple [d.data, .int ((at_ + n : Nat) : Int)]
def optD : Option (List Nat) → PyData
  | none => .none
  | some f => .str (S f)
end DL

open PySem PySem.Spec PyProof.Rows L2 DL
local macro_rules | `(tactic| walk_at "dlname") => `(tactic| first
  | refine ew_name 0 (pv 0) rfl ?_
  | refine ew_name 1 (pv 1) rfl ?_
  | refine ew_name 2 (pv 2) rfl ?_
  | refine ew_name 3 (pv 3) rfl ?_
  | refine ew_name 4 (pv 4) rfl ?_
  | refine ew_name 5 (pv 5) rfl ?_
  | refine ew_name 6 (pv 6) rfl ?_
  | refine ew_name 7 (pv 7) rfl ?_
  | refine ew_name 8 (pv 8) rfl ?_
  | refine ew_name 9 (pv 9) rfl ?_
  | refine ew_name 10 (pv 10) rfl ?_
  | refine ew_name 11 (pv 11) rfl ?_
  | refine ew_name 12 (pv 12) rfl ?_
  | refine ew_name 13 (pv 13) rfl ?_
  | refine ew_name 14 (pv 14) rfl ?_
  | refine ew_name 15 (pv 15) rfl ?_
  | refine ew_glob (v := .int _) rfl (by assumption) ⟨_, rfl⟩ (fun _ => .int _) ?_
  | refine ew_glob (v := .str _) rfl (by assumption) ⟨_, rfl⟩ (fun _ => .str _) ?_)
local macro_rules | `(tactic| walk_at "dllen") => `(tactic| first
  | refine ew_lenO 0 (pv 0) rfl rfl (by assumption) ?_
  | refine ew_lenO 1 (pv 1) rfl rfl (by assumption) ?_
  | refine ew_lenO 2 (pv 2) rfl rfl (by assumption) ?_
  | refine ew_lenO 3 (pv 3) rfl rfl (by assumption) ?_
  | refine ew_lenO 4 (pv 4) rfl rfl (by assumption) ?_
  | refine ew_lenO 5 (pv 5) rfl rfl (by assumption) ?_
  | refine ew_lenO 6 (pv 6) rfl rfl (by assumption) ?_
  | refine ew_lenO 7 (pv 7) rfl rfl (by assumption) ?_
  | refine ew_lenO 8 (pv 8) rfl rfl (by assumption) ?_
  | refine ew_lenO 9 (pv 9) rfl rfl (by assumption) ?_
  | refine ew_lenO 10 (pv 10) rfl rfl (by assumption) ?_
  | refine ew_lenO 11 (pv 11) rfl rfl (by assumption) ?_
  | refine ew_callB cd_len rfl (by assumption) boot_len ?_)
local macro_rules | `(tactic| walk_at "dlix") => `(tactic| first
  | refine ew_ixO 0 (pv 0) rfl ?_ (fun _ _ => rfl)
  | refine ew_ixO 1 (pv 1) rfl ?_ (fun _ _ => rfl)
  | refine ew_ixO 2 (pv 2) rfl ?_ (fun _ _ => rfl)
  | refine ew_ixO 3 (pv 3) rfl ?_ (fun _ _ => rfl)
  | refine ew_ixO 4 (pv 4) rfl ?_ (fun _ _ => rfl)
  | refine ew_ixO 5 (pv 5) rfl ?_ (fun _ _ => rfl)
  | refine ew_ixO 6 (pv 6) rfl ?_ (fun _ _ => rfl)
  | refine ew_ixO 7 (pv 7) rfl ?_ (fun _ _ => rfl)
  | refine ew_ixO 8 (pv 8) rfl ?_ (fun _ _ => rfl)
  | refine ew_ixO 9 (pv 9) rfl ?_ (fun _ _ => rfl)
  | refine ew_ixO 10 (pv 10) rfl ?_ (fun _ _ => rfl)
  | refine ew_ixO 11 (pv 11) rfl ?_ (fun _ _ => rfl)
  | refine ew_ix ?_ (fun _ _ => rfl))
local macro_rules | `(tactic| walk_at "dlown") => `(tactic| first
  | refine ew_calO 0 (by assumption) (by assumption) (by assumption) rfl (pv 0) rfl ?_
  | refine ew_calO 1 (by assumption) (by assumption) (by assumption) rfl (pv 1) rfl ?_
  | refine ew_calO 2 (by assumption) (by assumption) (by assumption) rfl (pv 2) rfl ?_
  | refine ew_calO 3 (by assumption) (by assumption) (by assumption) rfl (pv 3) rfl ?_
  | refine ew_calO 4 (by assumption) (by assumption) (by assumption) rfl (pv 4) rfl ?_
  | refine ew_calO 5 (by assumption) (by assumption) (by assumption) rfl (pv 5) rfl ?_
  | refine ew_calO 6 (by assumption) (by assumption) (by assumption) rfl (pv 6) rfl ?_
  | refine ew_calO 7 (by assumption) (by assumption) (by assumption) rfl (pv 7) rfl ?_)
local macro_rules | `(tactic| walk_at "dlbuilt") => `(tactic| first
  | ((with_reducible show EW _ (.Call (.Name "len" _) _ _ _) _ _); walk_at "dllen")
  | ((with_reducible show EW _ (.Call (.Name "list" _) [.Call (.Name "range" _) [_] _ _] _ _) _ _); refine EN.ew ?_; refine en_listRg rfl rfl (by assumption) rfl (by assumption) ?_; try dsimp only [OD.data])
  | ((with_reducible show EW _ (.Call (.Name "int" _) _ _ _) _ _); refine ew_callT cd_int rfl (by assumption) (by decide +kernel) ?_)
  | ((with_reducible show EW _ (.Call (.Name "str" _) _ _ _) _ _); refine ew_callT cd_str rfl (by assumption) (by decide +kernel) ?_)
  | ((with_reducible show EW _ (.Call (.Name "tuple" _) _ _ _) _ _); refine ew_callT cd_tuple rfl (by assumption) (by decide +kernel) ?_)
  | ((with_reducible show EW _ (.Call (.Name "list" _) _ _ _) _ _); refine ew_callT cd_list rfl (by assumption) (by decide +kernel) ?_)
  | ((with_reducible show EW _ (.Call (.Name "repr" _) _ _ _) _ _); refine ew_callB (cd_reprA (by assumption) (by assumption)) rfl (by assumption) (by decide +kernel) ?_)
  | ((with_reducible show EW _ (.Call (.Name "ord" _) _ _ _) _ _); refine ew_callB cd_ord rfl (by assumption) (by decide +kernel) ?_)
  | ((with_reducible show EW _ (.Call (.Name "all" _) _ _ _) _ _); refine ew_callB (cd_all rfl) rfl (by assumption) (by decide +kernel) ?_)
  | ((with_reducible show EW _ (.Call (.Name "any" _) _ _ _) _ _); refine ew_callB (cd_any rfl) rfl (by assumption) (by decide +kernel) ?_)
  | ((with_reducible show EW _ (.Call (.Name "isinstance" _) [_, .Name "str" _] _ _) _ _); refine ew_isi (T := "str") rfl (by assumption) rfl (by assumption) (by decide +kernel) (by decide +kernel) ?_)
  | ((with_reducible show EW _ (.Call (.Name "isinstance" _) [_, .Name "int" _] _ _) _ _); refine ew_isi (T := "int") rfl (by assumption) rfl (by assumption) (by decide +kernel) (by decide +kernel) ?_)
  | ((with_reducible show EW _ (.Call (.Name "isinstance" _) [_, .Name "bool" _] _ _) _ _); refine ew_isi (T := "bool") rfl (by assumption) rfl (by assumption) (by decide +kernel) (by decide +kernel) ?_)
  | ((with_reducible show EW _ (.Call (.Name "isinstance" _) [_, .Name "tuple" _] _ _) _ _); refine ew_isi (T := "tuple") rfl (by assumption) rfl (by assumption) (by decide +kernel) (by decide +kernel) ?_)
  | ((with_reducible show EW _ (.Call (.Name "isinstance" _) [_, .Name "list" _] _ _) _ _); refine ew_isi (T := "list") rfl (by assumption) rfl (by assumption) (by decide +kernel) (by decide +kernel) ?_)
  | ((with_reducible show EW _ (.Call (.Name "isinstance" _) [_, .Name "dict" _] _ _) _ _); refine ew_isi (T := "dict") rfl (by assumption) rfl (by assumption) (by decide +kernel) (by decide +kernel) ?_))
local macro_rules | `(tactic| walk_at "dlcall") => `(tactic| first
  | ((with_reducible show EW _ (.Call (.Name _ _) _ _ _) _ _); first | walk_at "dlbuilt" | (refine ew_calL (by with_reducible assumption) (by assumption) (by assumption) (by assumption) rfl ?_; try dsimp only [frz, List.set_cons_zero, List.set_cons_succ, List.map_cons, List.map_nil, frzS, OD.data]) | refine ew_cal (by assumption) (by assumption) (by assumption) rfl ?_ | walk_at "dlown" | (refine EN.ew ?_; refine en_cal (by assumption) (by assumption) (by assumption) rfl ?_; try dsimp only [OD.data]))
  | ((with_reducible show EW _ (.Call (.Attribute _ "join" _) _ _ _) _ _); refine ew_m1 PySem.F.slot_str_join PySem.F.type_str_join md_join ?_)
  | ((with_reducible show EW _ (.Call (.Attribute _ "split" _) _ _ _) _ _); refine ew_m1 PySem.F.slot_str_split PySem.F.type_str_split md_split ?_)
  | ((with_reducible show EW _ (.Call (.Attribute _ "index" _) _ _ _) _ _); refine ew_m1 PySem.F.slot_str_index PySem.F.type_str_index md_sindex ?_))
local macro_rules | `(tactic| walk_at "dlbin") => `(tactic| first
  | ((with_reducible show EW _ (.BinOp _ .Add _ _) _ _); refine ew_bin od_add ?_)
  | ((with_reducible show EW _ (.BinOp _ .Sub _ _) _ _); refine ew_bin od_sub ?_)
  | ((with_reducible show EW _ (.BinOp _ .Mult _ _) _ _); refine ew_bin od_mul ?_)
  | ((with_reducible show EW _ (.BinOp _ .FloorDiv _ _) _ _); refine ew_bin od_fdiv ?_)
  | ((with_reducible show EW _ (.BinOp _ .Mod _ _) _ _); refine ew_bin od_mod ?_)
  | ((with_reducible show EW _ (.BinOp _ .Pow _ _) _ _); refine ew_bin od_pow ?_))
local macro_rules | `(tactic| walk_at "dlcmp") => `(tactic| first
  | ((with_reducible show EW _ (.Compare _ [.Lt] [_] _) _ _); refine ew_cmp od_lt (nomark _) ?_)
  | ((with_reducible show EW _ (.Compare _ [.LtE] [_] _) _ _); refine ew_cmp od_le (nomark _) ?_)
  | ((with_reducible show EW _ (.Compare _ [.Gt] [_] _) _ _); refine ew_cmp od_gt (nomark _) ?_)
  | ((with_reducible show EW _ (.Compare _ [.GtE] [_] _) _ _); refine ew_cmp od_ge (nomark _) ?_)
  | ((with_reducible show EW _ (.Compare _ [.Eq] [_] _) _ _); refine ew_cmp (od_eq (by assumption)) (nomark _) ?_)
  | ((with_reducible show EW _ (.Compare _ [.NotEq] [_] _) _ _); refine ew_cmp (od_ne (by assumption)) (nomark _) ?_)
  | ((with_reducible show EW _ (.Compare _ [.Is] [_] _) _ _); refine ew_cmp od_is (nomark _) ?_)
  | ((with_reducible show EW _ (.Compare _ [.IsNot] [_] _) _ _); refine ew_cmp od_isNot (nomark _) ?_)
  | ((with_reducible show EW _ (.Compare _ [.In] [_] _) _ _); refine ew_cmp (od_in (by assumption)) rfl ?_)
  | ((with_reducible show EW _ (.Compare _ [.NotIn] [_] _) _ _); refine ew_cmp (od_notIn (by assumption)) rfl ?_)
  | ((with_reducible show EW _ (.Compare _ [.LtE, .LtE] [_, _] _) _ _); refine ew_chain od_le od_le rfl ?_))
local macro_rules | `(tactic| walk_at "dltcmp") => `(tactic| first
  | ((with_reducible show TW _ (.Compare _ [.Lt] [_] _) _ _); refine tw_cmp od_lt (nomark _) ?_)
  | ((with_reducible show TW _ (.Compare _ [.LtE] [_] _) _ _); refine tw_cmp od_le (nomark _) ?_)
  | ((with_reducible show TW _ (.Compare _ [.Gt] [_] _) _ _); refine tw_cmp od_gt (nomark _) ?_)
  | ((with_reducible show TW _ (.Compare _ [.GtE] [_] _) _ _); refine tw_cmp od_ge (nomark _) ?_)
  | ((with_reducible show TW _ (.Compare _ [.Eq] [_] _) _ _); refine tw_cmp (od_eq (by assumption)) (nomark _) ?_)
  | ((with_reducible show TW _ (.Compare _ [.NotEq] [_] _) _ _); refine tw_cmp (od_ne (by assumption)) (nomark _) ?_)
  | ((with_reducible show TW _ (.Compare _ [.Is] [_] _) _ _); refine tw_cmp od_is (nomark _) ?_)
  | ((with_reducible show TW _ (.Compare _ [.IsNot] [_] _) _ _); refine tw_cmp od_isNot (nomark _) ?_)
  | ((with_reducible show TW _ (.Compare _ [.In] [_] _) _ _); refine tw_cmp (od_in (by assumption)) rfl ?_)
  | ((with_reducible show TW _ (.Compare _ [.NotIn] [_] _) _ _); refine tw_cmp (od_notIn (by assumption)) rfl ?_)
  | ((with_reducible show TW _ (.Compare _ [.LtE, .LtE] [_, _] _) _ _); refine tw_chain od_le od_le rfl ?_))
local macro_rules | `(tactic| walk_at "dlconst") => `(tactic| first
  | ((with_reducible show EW _ (.Constant (.int _) _ _) _ _); refine ew_int ?_)
  | ((with_reducible show EW _ (.Constant (.bool _) _ _) _ _); refine ew_bl ?_)
  | ((with_reducible show EW _ (.Constant (.str _) _ _) _ _); refine ew_str ?_)
  | refine ew_non ?_)
local macro_rules | `(tactic| walk_at "dlbool") => `(tactic| first
  | ((with_reducible show EW _ (.BoolOp _ [_] _) _ _); refine ew_one ?_)
  | ((with_reducible show EW _ (.BoolOp .And _ _) _ _); refine ew_and ?_)
  | refine ew_or ?_)
local macro_rules | `(tactic| walk_at "dlE") => `(tactic| first
  | ((with_reducible show EW _ (.Name _ _) _ _); walk_at "dlname")
  | ((with_reducible show EW _ (.Constant _ _ _) _ _); walk_at "dlconst")
  | ((with_reducible show EW _ (.BinOp _ _ _ _) _ _); walk_at "dlbin")
  | ((with_reducible show EW _ (.Compare _ _ _ _) _ _); walk_at "dlcmp")
  | ((with_reducible show EW _ (.Call _ _ _ _) _ _); walk_at "dlcall")
  | ((with_reducible show EW _ (.Subscript _ (.Slice _ _ none _) _) _ _); refine ew_slice ?_)
  | ((with_reducible show EW _ (.Subscript _ _ _) _ _); walk_at "dlix")
  | ((with_reducible show EW _ (.Tuple _ _ _) _ _); refine ew_tup ?_)
  | ((with_reducible show EW _ (.List _ _) _ _); refine ew_lst ?_)
  | ((with_reducible show EW _ (.IfExp _ _ _ _) _ _); refine ew_ifExp ?_)
  | ((with_reducible show EW _ (.BoolOp _ _ _) _ _); walk_at "dlbool")
  | ((with_reducible show EW _ (.UnaryOp .Not _ _) _ _); refine ew_not ?_)
  | ((with_reducible show EW _ (.UnaryOp .USub _ _) _ _); refine ew_un ud_neg ?_)
  | ((with_reducible show EW _ (.JoinedStr (_ :: _ :: _) _) _ _); refine ew_joined ?_)
  | ((with_reducible show EW _ (.JoinedStr [_] _) _ _); refine ew_joined1 ?_)
  | ((with_reducible show EW _ (.FormattedValue _ _ none _) _ _); refine ew_fmt ?_)
  | ((with_reducible show EW _ (.FormattedValue _ _ (some _) _) _ _); refine ew_f04 ?_))
local macro_rules | `(tactic| walk_at "dlTW") => `(tactic| first
  | ((with_reducible show TWW _ (.BoolOp .And [_] _) _ _); refine tww_and1 ?_)
  | ((with_reducible show TWW _ (.BoolOp .Or [_] _) _ _); refine tww_or1 ?_)
  | ((with_reducible show TWW _ (.BoolOp .And _ _) _ _); refine tww_and ?_)
  | refine tww_or ?_)
local macro_rules | `(tactic| walk_at "dlT") => `(tactic| first
  | ((with_reducible show TW _ (.Compare _ _ _ _) _ _); walk_at "dltcmp")
  | ((with_reducible show TW _ (.BoolOp _ _ _) _ _); refine TWW.tw ?_)
  | ((with_reducible show TW _ (.UnaryOp .Not _ _) _ _); refine tw_not ?_)
  | refine tw_of (by intro _; rfl) ?_)
local macro_rules | `(tactic| walk_at "dlset") => `(tactic| first
  | ((have _ : Ow 0 := by with_reducible assumption); refine sw_setN 0 (ps_set (i := 0) (by assumption) rfl (.inl rfl) (pe_any _)) (by decide) (Nat.le_of_ble_eq_true rfl) ?_)
  | ((have _ : Ow 1 := by with_reducible assumption); refine sw_setN 1 (ps_set (i := 1) (by assumption) rfl (.inl rfl) (pe_any _)) (by decide) (Nat.le_of_ble_eq_true rfl) ?_)
  | ((have _ : Ow 2 := by with_reducible assumption); refine sw_setN 2 (ps_set (i := 2) (by assumption) rfl (.inl rfl) (pe_any _)) (by decide) (Nat.le_of_ble_eq_true rfl) ?_)
  | ((have _ : Ow 3 := by with_reducible assumption); refine sw_setN 3 (ps_set (i := 3) (by assumption) rfl (.inl rfl) (pe_any _)) (by decide) (Nat.le_of_ble_eq_true rfl) ?_)
  | ((have _ : Ow 4 := by with_reducible assumption); refine sw_setN 4 (ps_set (i := 4) (by assumption) rfl (.inl rfl) (pe_any _)) (by decide) (Nat.le_of_ble_eq_true rfl) ?_)
  | ((have _ : Ow 5 := by with_reducible assumption); refine sw_setN 5 (ps_set (i := 5) (by assumption) rfl (.inl rfl) (pe_any _)) (by decide) (Nat.le_of_ble_eq_true rfl) ?_)
  | ((have _ : Ow 6 := by with_reducible assumption); refine sw_setN 6 (ps_set (i := 6) (by assumption) rfl (.inl rfl) (pe_any _)) (by decide) (Nat.le_of_ble_eq_true rfl) ?_)
  | ((have _ : Ow 7 := by with_reducible assumption); refine sw_setN 7 (ps_set (i := 7) (by assumption) rfl (.inl rfl) (pe_any _)) (by decide) (Nat.le_of_ble_eq_true rfl) ?_)
  | ((have _ : Ow 8 := by with_reducible assumption); refine sw_setN 8 (ps_set (i := 8) (by assumption) rfl (.inl rfl) (pe_any _)) (by decide) (Nat.le_of_ble_eq_true rfl) ?_)
  | ((have _ : Ow 9 := by with_reducible assumption); refine sw_setN 9 (ps_set (i := 9) (by assumption) rfl (.inl rfl) (pe_any _)) (by decide) (Nat.le_of_ble_eq_true rfl) ?_)
  | ((have _ : Ow 10 := by with_reducible assumption); refine sw_setN 10 (ps_set (i := 10) (by assumption) rfl (.inl rfl) (pe_any _)) (by decide) (Nat.le_of_ble_eq_true rfl) ?_)
  | ((have _ : Ow 11 := by with_reducible assumption); refine sw_setN 11 (ps_set (i := 11) (by assumption) rfl (.inl rfl) (pe_any _)) (by decide) (Nat.le_of_ble_eq_true rfl) ?_)
  | ((have _ : Ow 12 := by with_reducible assumption); refine sw_setN 12 (ps_set (i := 12) (by assumption) rfl (.inl rfl) (pe_any _)) (by decide) (Nat.le_of_ble_eq_true rfl) ?_)
  | ((have _ : Ow 13 := by with_reducible assumption); refine sw_setN 13 (ps_set (i := 13) (by assumption) rfl (.inl rfl) (pe_any _)) (by decide) (Nat.le_of_ble_eq_true rfl) ?_)
  | ((have _ : Ow 14 := by with_reducible assumption); refine sw_setN 14 (ps_set (i := 14) (by assumption) rfl (.inl rfl) (pe_any _)) (by decide) (Nat.le_of_ble_eq_true rfl) ?_)
  | ((have _ : Ow 15 := by with_reducible assumption); refine sw_setN 15 (ps_set (i := 15) (by assumption) rfl (.inl rfl) (pe_any _)) (by decide) (Nat.le_of_ble_eq_true rfl) ?_)
  | ((have _ : Ow 0 := by with_reducible assumption); refine sw_setN 0 (ps_set (i := 0) (by assumption) rfl (.inr rfl) (pe_any _)) (by decide) (Nat.le_of_ble_eq_true rfl) ?_)
  | ((have _ : Ow 1 := by with_reducible assumption); refine sw_setN 1 (ps_set (i := 1) (by assumption) rfl (.inr rfl) (pe_any _)) (by decide) (Nat.le_of_ble_eq_true rfl) ?_)
  | ((have _ : Ow 2 := by with_reducible assumption); refine sw_setN 2 (ps_set (i := 2) (by assumption) rfl (.inr rfl) (pe_any _)) (by decide) (Nat.le_of_ble_eq_true rfl) ?_)
  | ((have _ : Ow 3 := by with_reducible assumption); refine sw_setN 3 (ps_set (i := 3) (by assumption) rfl (.inr rfl) (pe_any _)) (by decide) (Nat.le_of_ble_eq_true rfl) ?_)
  | ((have _ : Ow 4 := by with_reducible assumption); refine sw_setN 4 (ps_set (i := 4) (by assumption) rfl (.inr rfl) (pe_any _)) (by decide) (Nat.le_of_ble_eq_true rfl) ?_)
  | ((have _ : Ow 5 := by with_reducible assumption); refine sw_setN 5 (ps_set (i := 5) (by assumption) rfl (.inr rfl) (pe_any _)) (by decide) (Nat.le_of_ble_eq_true rfl) ?_)
  | ((have _ : Ow 6 := by with_reducible assumption); refine sw_setN 6 (ps_set (i := 6) (by assumption) rfl (.inr rfl) (pe_any _)) (by decide) (Nat.le_of_ble_eq_true rfl) ?_)
  | ((have _ : Ow 7 := by with_reducible assumption); refine sw_setN 7 (ps_set (i := 7) (by assumption) rfl (.inr rfl) (pe_any _)) (by decide) (Nat.le_of_ble_eq_true rfl) ?_)
  | ((have _ : Ow 8 := by with_reducible assumption); refine sw_setN 8 (ps_set (i := 8) (by assumption) rfl (.inr rfl) (pe_any _)) (by decide) (Nat.le_of_ble_eq_true rfl) ?_)
  | ((have _ : Ow 9 := by with_reducible assumption); refine sw_setN 9 (ps_set (i := 9) (by assumption) rfl (.inr rfl) (pe_any _)) (by decide) (Nat.le_of_ble_eq_true rfl) ?_)
  | ((have _ : Ow 10 := by with_reducible assumption); refine sw_setN 10 (ps_set (i := 10) (by assumption) rfl (.inr rfl) (pe_any _)) (by decide) (Nat.le_of_ble_eq_true rfl) ?_)
  | ((have _ : Ow 11 := by with_reducible assumption); refine sw_setN 11 (ps_set (i := 11) (by assumption) rfl (.inr rfl) (pe_any _)) (by decide) (Nat.le_of_ble_eq_true rfl) ?_)
  | ((have _ : Ow 12 := by with_reducible assumption); refine sw_setN 12 (ps_set (i := 12) (by assumption) rfl (.inr rfl) (pe_any _)) (by decide) (Nat.le_of_ble_eq_true rfl) ?_)
  | ((have _ : Ow 13 := by with_reducible assumption); refine sw_setN 13 (ps_set (i := 13) (by assumption) rfl (.inr rfl) (pe_any _)) (by decide) (Nat.le_of_ble_eq_true rfl) ?_)
  | ((have _ : Ow 14 := by with_reducible assumption); refine sw_setN 14 (ps_set (i := 14) (by assumption) rfl (.inr rfl) (pe_any _)) (by decide) (Nat.le_of_ble_eq_true rfl) ?_)
  | ((have _ : Ow 15 := by with_reducible assumption); refine sw_setN 15 (ps_set (i := 15) (by assumption) rfl (.inr rfl) (pe_any _)) (by decide) (Nat.le_of_ble_eq_true rfl) ?_)
  | refine sw_set 0 (ps_set (i := 0) (by assumption) rfl (.inl rfl) (pe_any _)) (by decide) ?_
  | refine sw_set 1 (ps_set (i := 1) (by assumption) rfl (.inl rfl) (pe_any _)) (by decide) ?_
  | refine sw_set 2 (ps_set (i := 2) (by assumption) rfl (.inl rfl) (pe_any _)) (by decide) ?_
  | refine sw_set 3 (ps_set (i := 3) (by assumption) rfl (.inl rfl) (pe_any _)) (by decide) ?_
  | refine sw_set 4 (ps_set (i := 4) (by assumption) rfl (.inl rfl) (pe_any _)) (by decide) ?_
  | refine sw_set 5 (ps_set (i := 5) (by assumption) rfl (.inl rfl) (pe_any _)) (by decide) ?_
  | refine sw_set 6 (ps_set (i := 6) (by assumption) rfl (.inl rfl) (pe_any _)) (by decide) ?_
  | refine sw_set 7 (ps_set (i := 7) (by assumption) rfl (.inl rfl) (pe_any _)) (by decide) ?_
  | refine sw_set 8 (ps_set (i := 8) (by assumption) rfl (.inl rfl) (pe_any _)) (by decide) ?_
  | refine sw_set 9 (ps_set (i := 9) (by assumption) rfl (.inl rfl) (pe_any _)) (by decide) ?_
  | refine sw_set 10 (ps_set (i := 10) (by assumption) rfl (.inl rfl) (pe_any _)) (by decide) ?_
  | refine sw_set 11 (ps_set (i := 11) (by assumption) rfl (.inl rfl) (pe_any _)) (by decide) ?_
  | refine sw_set 12 (ps_set (i := 12) (by assumption) rfl (.inl rfl) (pe_any _)) (by decide) ?_
  | refine sw_set 13 (ps_set (i := 13) (by assumption) rfl (.inl rfl) (pe_any _)) (by decide) ?_
  | refine sw_set 14 (ps_set (i := 14) (by assumption) rfl (.inl rfl) (pe_any _)) (by decide) ?_
  | refine sw_set 15 (ps_set (i := 15) (by assumption) rfl (.inl rfl) (pe_any _)) (by decide) ?_
  | refine sw_set 0 (ps_set (i := 0) (by assumption) rfl (.inr rfl) (pe_any _)) (by decide) ?_
  | refine sw_set 1 (ps_set (i := 1) (by assumption) rfl (.inr rfl) (pe_any _)) (by decide) ?_
  | refine sw_set 2 (ps_set (i := 2) (by assumption) rfl (.inr rfl) (pe_any _)) (by decide) ?_
  | refine sw_set 3 (ps_set (i := 3) (by assumption) rfl (.inr rfl) (pe_any _)) (by decide) ?_
  | refine sw_set 4 (ps_set (i := 4) (by assumption) rfl (.inr rfl) (pe_any _)) (by decide) ?_
  | refine sw_set 5 (ps_set (i := 5) (by assumption) rfl (.inr rfl) (pe_any _)) (by decide) ?_
  | refine sw_set 6 (ps_set (i := 6) (by assumption) rfl (.inr rfl) (pe_any _)) (by decide) ?_
  | refine sw_set 7 (ps_set (i := 7) (by assumption) rfl (.inr rfl) (pe_any _)) (by decide) ?_
  | refine sw_set 8 (ps_set (i := 8) (by assumption) rfl (.inr rfl) (pe_any _)) (by decide) ?_
  | refine sw_set 9 (ps_set (i := 9) (by assumption) rfl (.inr rfl) (pe_any _)) (by decide) ?_
  | refine sw_set 10 (ps_set (i := 10) (by assumption) rfl (.inr rfl) (pe_any _)) (by decide) ?_
  | refine sw_set 11 (ps_set (i := 11) (by assumption) rfl (.inr rfl) (pe_any _)) (by decide) ?_
  | refine sw_set 12 (ps_set (i := 12) (by assumption) rfl (.inr rfl) (pe_any _)) (by decide) ?_
  | refine sw_set 13 (ps_set (i := 13) (by assumption) rfl (.inr rfl) (pe_any _)) (by decide) ?_
  | refine sw_set 14 (ps_set (i := 14) (by assumption) rfl (.inr rfl) (pe_any _)) (by decide) ?_
  | refine sw_set 15 (ps_set (i := 15) (by assumption) rfl (.inr rfl) (pe_any _)) (by decide) ?_)
local macro_rules | `(tactic| walk_at "dlapp") => `(tactic| first
  | refine sw_append 0 (pe_bm PySem.F.plainAttrs_list PySem.F.slot_list_append PySem.F.type_list_append mt_append (pv 0) (pa_cons (pe_any _) pa_nil)) rfl ?_
  | refine sw_append 1 (pe_bm PySem.F.plainAttrs_list PySem.F.slot_list_append PySem.F.type_list_append mt_append (pv 1) (pa_cons (pe_any _) pa_nil)) rfl ?_
  | refine sw_append 2 (pe_bm PySem.F.plainAttrs_list PySem.F.slot_list_append PySem.F.type_list_append mt_append (pv 2) (pa_cons (pe_any _) pa_nil)) rfl ?_
  | refine sw_append 3 (pe_bm PySem.F.plainAttrs_list PySem.F.slot_list_append PySem.F.type_list_append mt_append (pv 3) (pa_cons (pe_any _) pa_nil)) rfl ?_
  | refine sw_append 4 (pe_bm PySem.F.plainAttrs_list PySem.F.slot_list_append PySem.F.type_list_append mt_append (pv 4) (pa_cons (pe_any _) pa_nil)) rfl ?_
  | refine sw_append 5 (pe_bm PySem.F.plainAttrs_list PySem.F.slot_list_append PySem.F.type_list_append mt_append (pv 5) (pa_cons (pe_any _) pa_nil)) rfl ?_
  | refine sw_append 6 (pe_bm PySem.F.plainAttrs_list PySem.F.slot_list_append PySem.F.type_list_append mt_append (pv 6) (pa_cons (pe_any _) pa_nil)) rfl ?_
  | refine sw_append 7 (pe_bm PySem.F.plainAttrs_list PySem.F.slot_list_append PySem.F.type_list_append mt_append (pv 7) (pa_cons (pe_any _) pa_nil)) rfl ?_
  | refine sw_append 8 (pe_bm PySem.F.plainAttrs_list PySem.F.slot_list_append PySem.F.type_list_append mt_append (pv 8) (pa_cons (pe_any _) pa_nil)) rfl ?_
  | refine sw_append 9 (pe_bm PySem.F.plainAttrs_list PySem.F.slot_list_append PySem.F.type_list_append mt_append (pv 9) (pa_cons (pe_any _) pa_nil)) rfl ?_
  | refine sw_append 10 (pe_bm PySem.F.plainAttrs_list PySem.F.slot_list_append PySem.F.type_list_append mt_append (pv 10) (pa_cons (pe_any _) pa_nil)) rfl ?_
  | refine sw_append 11 (pe_bm PySem.F.plainAttrs_list PySem.F.slot_list_append PySem.F.type_list_append mt_append (pv 11) (pa_cons (pe_any _) pa_nil)) rfl ?_
  | refine sw_append 12 (pe_bm PySem.F.plainAttrs_list PySem.F.slot_list_append PySem.F.type_list_append mt_append (pv 12) (pa_cons (pe_any _) pa_nil)) rfl ?_
  | refine sw_append 13 (pe_bm PySem.F.plainAttrs_list PySem.F.slot_list_append PySem.F.type_list_append mt_append (pv 13) (pa_cons (pe_any _) pa_nil)) rfl ?_
  | refine sw_append 14 (pe_bm PySem.F.plainAttrs_list PySem.F.slot_list_append PySem.F.type_list_append mt_append (pv 14) (pa_cons (pe_any _) pa_nil)) rfl ?_
  | refine sw_append 15 (pe_bm PySem.F.plainAttrs_list PySem.F.slot_list_append PySem.F.type_list_append mt_append (pv 15) (pa_cons (pe_any _) pa_nil)) rfl ?_)
local macro_rules | `(tactic| walk_at "dlsetix") => `(tactic| first
  | refine sw_setIx 0 (pv 0) rfl ?_
  | refine sw_setIx 1 (pv 1) rfl ?_
  | refine sw_setIx 2 (pv 2) rfl ?_
  | refine sw_setIx 3 (pv 3) rfl ?_
  | refine sw_setIx 4 (pv 4) rfl ?_
  | refine sw_setIx 5 (pv 5) rfl ?_
  | refine sw_setIx 6 (pv 6) rfl ?_
  | refine sw_setIx 7 (pv 7) rfl ?_
  | refine sw_setIx 8 (pv 8) rfl ?_
  | refine sw_setIx 9 (pv 9) rfl ?_
  | refine sw_setIx 10 (pv 10) rfl ?_
  | refine sw_setIx 11 (pv 11) rfl ?_
  | refine sw_setIx 12 (pv 12) rfl ?_
  | refine sw_setIx 13 (pv 13) rfl ?_
  | refine sw_setIx 14 (pv 14) rfl ?_
  | refine sw_setIx 15 (pv 15) rfl ?_)
local macro_rules | `(tactic| walk_at "dlaug") => `(tactic| first
  | refine sw_aug 0 (fun ti ho => ps_aug (by assumption) rfl (.inl rfl) (pe_any _) ho) id_add (by decide) rfl ?_
  | refine sw_aug 1 (fun ti ho => ps_aug (by assumption) rfl (.inl rfl) (pe_any _) ho) id_add (by decide) rfl ?_
  | refine sw_aug 2 (fun ti ho => ps_aug (by assumption) rfl (.inl rfl) (pe_any _) ho) id_add (by decide) rfl ?_
  | refine sw_aug 3 (fun ti ho => ps_aug (by assumption) rfl (.inl rfl) (pe_any _) ho) id_add (by decide) rfl ?_
  | refine sw_aug 4 (fun ti ho => ps_aug (by assumption) rfl (.inl rfl) (pe_any _) ho) id_add (by decide) rfl ?_
  | refine sw_aug 5 (fun ti ho => ps_aug (by assumption) rfl (.inl rfl) (pe_any _) ho) id_add (by decide) rfl ?_
  | refine sw_aug 6 (fun ti ho => ps_aug (by assumption) rfl (.inl rfl) (pe_any _) ho) id_add (by decide) rfl ?_
  | refine sw_aug 7 (fun ti ho => ps_aug (by assumption) rfl (.inl rfl) (pe_any _) ho) id_add (by decide) rfl ?_
  | refine sw_aug 8 (fun ti ho => ps_aug (by assumption) rfl (.inl rfl) (pe_any _) ho) id_add (by decide) rfl ?_
  | refine sw_aug 9 (fun ti ho => ps_aug (by assumption) rfl (.inl rfl) (pe_any _) ho) id_add (by decide) rfl ?_
  | refine sw_aug 10 (fun ti ho => ps_aug (by assumption) rfl (.inl rfl) (pe_any _) ho) id_add (by decide) rfl ?_
  | refine sw_aug 11 (fun ti ho => ps_aug (by assumption) rfl (.inl rfl) (pe_any _) ho) id_add (by decide) rfl ?_
  | refine sw_aug 12 (fun ti ho => ps_aug (by assumption) rfl (.inl rfl) (pe_any _) ho) id_add (by decide) rfl ?_
  | refine sw_aug 13 (fun ti ho => ps_aug (by assumption) rfl (.inl rfl) (pe_any _) ho) id_add (by decide) rfl ?_
  | refine sw_aug 14 (fun ti ho => ps_aug (by assumption) rfl (.inl rfl) (pe_any _) ho) id_add (by decide) rfl ?_
  | refine sw_aug 15 (fun ti ho => ps_aug (by assumption) rfl (.inl rfl) (pe_any _) ho) id_add (by decide) rfl ?_)
local macro_rules | `(tactic| walk_at "dlret") => `(tactic| first
  | ((have _ : OwR := by with_reducible assumption); refine sw_retO 0 (pv 0) rfl ?_)
  | ((have _ : OwR := by with_reducible assumption); refine sw_retO 1 (pv 1) rfl ?_)
  | ((have _ : OwR := by with_reducible assumption); refine sw_retO 2 (pv 2) rfl ?_)
  | ((have _ : OwR := by with_reducible assumption); refine sw_retO 3 (pv 3) rfl ?_)
  | ((have _ : OwR := by with_reducible assumption); refine sw_retO 4 (pv 4) rfl ?_)
  | ((have _ : OwR := by with_reducible assumption); refine sw_retO 5 (pv 5) rfl ?_)
  | ((have _ : OwR := by with_reducible assumption); refine sw_retO 6 (pv 6) rfl ?_)
  | ((have _ : OwR := by with_reducible assumption); refine sw_retO 7 (pv 7) rfl ?_)
  | ((have _ : OwR := by with_reducible assumption); refine sw_retO 8 (pv 8) rfl ?_)
  | ((have _ : OwR := by with_reducible assumption); refine sw_retO 9 (pv 9) rfl ?_)
  | ((have _ : OwR := by with_reducible assumption); refine sw_retO 10 (pv 10) rfl ?_)
  | ((have _ : OwR := by with_reducible assumption); refine sw_retO 11 (pv 11) rfl ?_)
  | ((have _ : OwR := by with_reducible assumption); refine sw_retO 12 (pv 12) rfl ?_)
  | ((have _ : OwR := by with_reducible assumption); refine sw_retO 13 (pv 13) rfl ?_)
  | ((have _ : OwR := by with_reducible assumption); refine sw_retO 14 (pv 14) rfl ?_)
  | ((have _ : OwR := by with_reducible assumption); refine sw_retO 15 (pv 15) rfl ?_)
  | ((have _ : OwR := by with_reducible assumption); refine sw_retE ?_)
  | refine sw_ret ?_)
local macro_rules | `(tactic| walk_at "dlSW") => `(tactic| first
  | ((with_reducible show SW _ _ (.Return (some _) _) _ _); walk_at "dlret")
  | ((with_reducible show SW _ _ (.If _ _ _ _) _ _); refine sw_if ?_)
  | ((with_reducible show SW _ _ (.Assign [.Name _ _] _ _) _ _); walk_at "dlset")
  | ((with_reducible show SW _ _ (.Assign [.Subscript _ _ _] _ _) _ _); walk_at "dlsetix")
  | ((with_reducible show SW _ _ (.Expr (.Call (.Attribute _ "append" _) _ _ _) _) _ _); walk_at "dlapp")
  | ((with_reducible show SW _ _ (.Expr _ _) _ _); refine sw_expr ?_)
  | ((with_reducible show SW _ _ (.Pass _) _ _); refine sw_pass ?_)
  | ((with_reducible show SW _ _ (.AugAssign (.Name _ _) .Add _ _) _ _); walk_at "dlaug")
  | ((with_reducible show SW _ _ (.Break _) _ _); refine sw_break ?_)
  | ((with_reducible show SW _ _ (.Continue _) _ _); refine sw_cont ?_)
  | ((with_reducible show SW _ _ (.Return none _) _ _); refine sw_retN ?_))
local macro_rules | `(tactic| walk_at "dlSs") => `(tactic| first
  | ((with_reducible show SsW _ _ _ (List.set _ _ _) _); dsimp only [List.set_cons_zero, List.set_cons_succ])
  | ((with_reducible show SsW _ _ [] _ _); refine ssw_nil ?_)
  | refine ssw_cons ?_)
local macro_rules | `(tactic| walk_at "dlEN") => `(tactic| first
  | ((with_reducible show EN _ (.List _ _) _ _); refine en_lst ?_)
  | ((with_reducible show EN _ (.IfExp _ _ _ _) _ _); refine en_ifExp ?_)
  | ((with_reducible show EN _ (.Call (.Name "list" _) [.Call (.Name "range" _) [_] _ _] _ _) _ _); refine en_listRg rfl rfl (by assumption) rfl (by assumption) ?_)
  | ((with_reducible show EN _ (.Call (.Name "list" _) [.Name _ _] _ _) _ _); refine en_listO 0 rfl (by assumption) (pv 0) rfl ?_)
  | ((with_reducible show EN _ (.Call (.Name "list" _) [.Name _ _] _ _) _ _); refine en_listO 1 rfl (by assumption) (pv 1) rfl ?_)
  | ((with_reducible show EN _ (.Call (.Name "list" _) [.Name _ _] _ _) _ _); refine en_listO 2 rfl (by assumption) (pv 2) rfl ?_)
  | ((with_reducible show EN _ (.Call (.Name "list" _) [.Name _ _] _ _) _ _); refine en_listO 3 rfl (by assumption) (pv 3) rfl ?_)
  | ((with_reducible show EN _ (.Call (.Name "list" _) [.Name _ _] _ _) _ _); refine en_listO 4 rfl (by assumption) (pv 4) rfl ?_)
  | ((with_reducible show EN _ (.Call (.Name "list" _) [.Name _ _] _ _) _ _); refine en_listO 5 rfl (by assumption) (pv 5) rfl ?_)
  | ((with_reducible show EN _ (.Call (.Name "list" _) [.Name _ _] _ _) _ _); refine en_listO 6 rfl (by assumption) (pv 6) rfl ?_)
  | ((with_reducible show EN _ (.Call (.Name "list" _) [.Name _ _] _ _) _ _); refine en_listO 7 rfl (by assumption) (pv 7) rfl ?_)
  | ((with_reducible show EN _ (.Call (.Name "list" _) [.Name _ _] _ _) _ _); refine en_listO 8 rfl (by assumption) (pv 8) rfl ?_)
  | ((with_reducible show EN _ (.Call (.Name "list" _) [.Name _ _] _ _) _ _); refine en_listO 9 rfl (by assumption) (pv 9) rfl ?_)
  | ((with_reducible show EN _ (.Call (.Name "list" _) [.Name _ _] _ _) _ _); refine en_listO 10 rfl (by assumption) (pv 10) rfl ?_)
  | ((with_reducible show EN _ (.Call (.Name "list" _) [.Name _ _] _ _) _ _); refine en_listO 11 rfl (by assumption) (pv 11) rfl ?_)
  | ((with_reducible show EN _ (.Call (.Name "list" _) [_] _ _) _ _); refine en_list rfl (by assumption) ?_)
  | ((with_reducible show EN _ (.Call (.Name _ _) _ _ _) _ _); refine en_cal (by assumption) (by assumption) (by assumption) rfl ?_))
local macro_rules | `(tactic| walk_at "dlO") => `(tactic| first
  | ((with_reducible show EN _ _ _ _); walk_at "dlEN")
  | ((with_reducible show AW _ [] _ _); refine aw_nil ?_)
  | ((with_reducible show AW _ (_ :: _) _ _); refine aw_cons ?_)
  | ((with_reducible show OW _ _ _ _); dsimp only [OW])
  | ((with_reducible show JW _ _ _ _ _); dsimp only [JW]))
local macro_rules | `(tactic| walk_at "dlD") => `(tactic| first
  | ((with_reducible show IsB _ _); refine isB_i ?_)
  | ((with_reducible show IsI _ _); refine isI_i ?_)
  | ((with_reducible show CmpW _ _ _ _ ); dsimp only [CmpW, OD.data])
  | ((with_reducible show AddW _ _ _ ); dsimp only [AddW, OD.data])
  | ((with_reducible show SubW _ _ _ ); dsimp only [SubW, OD.data])
  | ((with_reducible show MulW _ _ _ ); dsimp only [MulW, OD.data]; (try refine ⟨by first | exact .inl ⟨by decide, by decide⟩ | exact .inr ⟨by decide, by decide⟩, ?_⟩))
  | ((with_reducible show FdivW _ _ _ ); dsimp only [FdivW, OD.data]; (try refine ⟨⟨by decide, by decide⟩, ?_⟩))
  | ((with_reducible show ModW _ _ _ ); dsimp only [ModW, OD.data]; (try refine ⟨by decide, ?_⟩))
  | ((with_reducible show PowW _ _ _ ); dsimp only [PowW, OD.data]; (try refine ⟨by decide, ?_⟩))
  | ((with_reducible show IsW _ _ _ ); dsimp only [IsW, OD.data])
  | ((with_reducible show IsNotW _ _ _ ); dsimp only [IsNotW, OD.data])
  | ((with_reducible show InW _ _ _ ); dsimp only [InW, OD.data])
  | ((with_reducible show NotInW _ _ _ ); dsimp only [NotInW, OD.data])
  | ((with_reducible show LenW _ _ ); dsimp only [LenW, OD.data])
  | ((with_reducible show IntW _ _ ); dsimp only [IntW, OD.data])
  | ((with_reducible show StrW _ _ ); dsimp only [StrW, OD.data])
  | ((with_reducible show ReprAW _ _ ); dsimp only [ReprAW, OD.data])
  | ((with_reducible show OrdW _ _ ); dsimp only [OrdW, OD.data])
  | ((with_reducible show TupleW _ _ ); dsimp only [TupleW, OD.data])
  | ((with_reducible show ListW _ _ ); dsimp only [ListW, OD.data])
  | ((with_reducible show NegW _ _ ); dsimp only [NegW, OD.data])
  | ((with_reducible show JoinW _ _ _ ); dsimp only [JoinW, OD.data])
  | ((with_reducible show SplitW _ _ _ ); dsimp only [SplitW, OD.data])
  | ((with_reducible show ItW _ _ ); dsimp only [ItW, OD.data])
  | ((with_reducible show FmtW _ _ ); dsimp only [FmtW, OD.data])
  | ((with_reducible show NwLst _ _ ); dsimp only [NwLst, OD.data])
  | ((with_reducible show SlW _ _ _ _ ); dsimp only [SlW, OD.data])
  | ((with_reducible show EqW _ _ _ ); dsimp only [EqW, OD.data]; (try (refine ⟨rfl, rfl, Nat.le_of_ble_eq_true rfl, ?_⟩)))
  | ((with_reducible show NeW _ _ _ ); dsimp only [NeW, OD.data]; (try (refine ⟨rfl, rfl, Nat.le_of_ble_eq_true rfl, ?_⟩)))
  | ((with_reducible show IaddW _ _ _ ); dsimp only [IaddW, OD.data])
  | ((with_reducible show SindexW _ _ _ ); dsimp only [SindexW, OD.data])
  | ((with_reducible show AllW _ _ ); dsimp only [AllW, OD.data])
  | ((with_reducible show AnyW _ _ ); dsimp only [AnyW, OD.data])
  | ((with_reducible show List.length _ ≤ 1000 ∧ _); refine ⟨Nat.le_of_ble_eq_true rfl, ?_⟩)
  | ((with_reducible show ∃ ds j d, _[_]? = some (Sl.ow (OD.lst ds)) ∧ _ = PyData.int j ∧ _ = some d ∧ _); refine ⟨_, _, _, rfl, rfl, rfl, ?_⟩)
  | ((with_reducible show ∃ ds n m, _[_]? = some (Sl.ow (OD.lst ds)) ∧ _ = PyData.int n ∧ ixN _ n = some m ∧ _); refine ⟨_, _, _, rfl, rfl, rfl, ?_⟩)
  | ((with_reducible show (isT _ _ = true → _) ∧ (isT _ _ = false → _)); first | refine sp_t (by dsimp only [tyD]; decide +kernel) ?_ | refine sp_f (by dsimp only [tyD]; decide +kernel) ?_)
  | ((with_reducible show ((!isT _ _) = true → _) ∧ ((!isT _ _) = false → _)); first | refine sp_t (by dsimp only [tyD]; decide +kernel) ?_ | refine sp_f (by dsimp only [tyD]; decide +kernel) ?_)
  | ((with_reducible show FlatD _ ∧ _); refine ⟨trivial, ?_⟩)
  | ((with_reducible show (isN _ = true → _) ∧ (isN _ = false → _)); first | refine sp_t rfl ?_ | refine sp_f rfl ?_)
  | ((with_reducible show ((!isN _) = true → _) ∧ ((!isN _) = false → _)); first | refine sp_t rfl ?_ | refine sp_f rfl ?_)
  | ((with_reducible show (isBl _ _ = true → _) ∧ (isBl _ _ = false → _)); first | refine sp_t rfl ?_ | refine sp_f rfl ?_)
  | ((with_reducible show (true = true → _) ∧ (true = false → _)); refine sp_t rfl ?_)
  | ((with_reducible show (false = true → _) ∧ (false = false → _)); refine sp_f rfl ?_)
  | ((with_reducible show ((!true) = true → _) ∧ ((!true) = false → _)); refine sp_f rfl ?_)
  | ((with_reducible show ((!false) = true → _) ∧ ((!false) = false → _)); refine sp_t rfl ?_))
local macro_rules | `(tactic| walk_at "dlgn") => `(tactic| first
  | refine gw_name 0 (pg_name (i := 0) (by assumption) rfl (.inl rfl)) (by decide) ?_
  | refine gw_name 1 (pg_name (i := 1) (by assumption) rfl (.inl rfl)) (by decide) ?_
  | refine gw_name 2 (pg_name (i := 2) (by assumption) rfl (.inl rfl)) (by decide) ?_
  | refine gw_name 3 (pg_name (i := 3) (by assumption) rfl (.inl rfl)) (by decide) ?_
  | refine gw_name 4 (pg_name (i := 4) (by assumption) rfl (.inl rfl)) (by decide) ?_
  | refine gw_name 5 (pg_name (i := 5) (by assumption) rfl (.inl rfl)) (by decide) ?_
  | refine gw_name 6 (pg_name (i := 6) (by assumption) rfl (.inl rfl)) (by decide) ?_
  | refine gw_name 7 (pg_name (i := 7) (by assumption) rfl (.inl rfl)) (by decide) ?_
  | refine gw_name 8 (pg_name (i := 8) (by assumption) rfl (.inl rfl)) (by decide) ?_
  | refine gw_name 9 (pg_name (i := 9) (by assumption) rfl (.inl rfl)) (by decide) ?_
  | refine gw_name 10 (pg_name (i := 10) (by assumption) rfl (.inl rfl)) (by decide) ?_
  | refine gw_name 11 (pg_name (i := 11) (by assumption) rfl (.inl rfl)) (by decide) ?_
  | refine gw_name 12 (pg_name (i := 12) (by assumption) rfl (.inl rfl)) (by decide) ?_
  | refine gw_name 13 (pg_name (i := 13) (by assumption) rfl (.inl rfl)) (by decide) ?_
  | refine gw_name 14 (pg_name (i := 14) (by assumption) rfl (.inl rfl)) (by decide) ?_
  | refine gw_name 15 (pg_name (i := 15) (by assumption) rfl (.inl rfl)) (by decide) ?_
  | refine gw_name 0 (pg_name (i := 0) (by assumption) rfl (.inr rfl)) (by decide) ?_
  | refine gw_name 1 (pg_name (i := 1) (by assumption) rfl (.inr rfl)) (by decide) ?_
  | refine gw_name 2 (pg_name (i := 2) (by assumption) rfl (.inr rfl)) (by decide) ?_
  | refine gw_name 3 (pg_name (i := 3) (by assumption) rfl (.inr rfl)) (by decide) ?_
  | refine gw_name 4 (pg_name (i := 4) (by assumption) rfl (.inr rfl)) (by decide) ?_
  | refine gw_name 5 (pg_name (i := 5) (by assumption) rfl (.inr rfl)) (by decide) ?_
  | refine gw_name 6 (pg_name (i := 6) (by assumption) rfl (.inr rfl)) (by decide) ?_
  | refine gw_name 7 (pg_name (i := 7) (by assumption) rfl (.inr rfl)) (by decide) ?_
  | refine gw_name 8 (pg_name (i := 8) (by assumption) rfl (.inr rfl)) (by decide) ?_
  | refine gw_name 9 (pg_name (i := 9) (by assumption) rfl (.inr rfl)) (by decide) ?_
  | refine gw_name 10 (pg_name (i := 10) (by assumption) rfl (.inr rfl)) (by decide) ?_
  | refine gw_name 11 (pg_name (i := 11) (by assumption) rfl (.inr rfl)) (by decide) ?_
  | refine gw_name 12 (pg_name (i := 12) (by assumption) rfl (.inr rfl)) (by decide) ?_
  | refine gw_name 13 (pg_name (i := 13) (by assumption) rfl (.inr rfl)) (by decide) ?_
  | refine gw_name 14 (pg_name (i := 14) (by assumption) rfl (.inr rfl)) (by decide) ?_
  | refine gw_name 15 (pg_name (i := 15) (by assumption) rfl (.inr rfl)) (by decide) ?_)
local macro_rules | `(tactic| walk_at "dlI") => `(tactic| first
  | ((with_reducible show IW _ _ (.Call (.Name "range" _) [_] _ _) _ _); refine iw_rng1 rfl (by assumption) ?_)
  | ((with_reducible show IW _ _ (.Call (.Name "range" _) [_, _] _ _) _ _); refine iw_rng2 rfl (by assumption) ?_)
  | ((with_reducible show IW _ _ (.Call (.Name "enumerate" _) [_] _ _) _ _); refine iw_enum rfl (by assumption) ?_)
  | ((with_reducible show IW _ _ _ _ _); refine iw_seq ?_)
  | ((with_reducible show GW _ _ (.Name _ _) _ _ _); walk_at "dlgn")
  | ((with_reducible show GB _ _ _ _ _ _ _); refine fun _ _ _ _ _ => ?_)
  | ((with_reducible show TB _ _ [] _ _); refine tb_nil ?_)
  | ((with_reducible show TB _ _ [_] _ _); refine tb_one fun _ _ _ _ _ => ?_)
  | ((with_reducible show EB _ _ _ _ _); refine fun _ _ _ _ _ => ?_))
local macro_rules | `(tactic| walk_at "dlset0") => `(tactic| first
  | ((with_reducible show EW _ _ (List.set _ _ _) _); dsimp only [List.set_cons_zero, List.set_cons_succ])
  | ((with_reducible show TW _ _ (List.set _ _ _) _); dsimp only [List.set_cons_zero, List.set_cons_succ])
  | ((with_reducible show EN _ _ (List.set _ _ _) _); dsimp only [List.set_cons_zero, List.set_cons_succ])
  | ((with_reducible show AW _ _ (List.set _ _ _) _); dsimp only [List.set_cons_zero, List.set_cons_succ])
  | ((with_reducible show TWW _ _ (List.set _ _ _) _); dsimp only [List.set_cons_zero, List.set_cons_succ]))
local macro_rules | `(tactic| walk_at "dl1") => `(tactic| first
  | walk_at "dlset0"
  | ((with_reducible show EW _ _ _ _); walk_at "dlE")
  | ((with_reducible show TW _ _ _ _); walk_at "dlT")
  | ((with_reducible show TWW _ _ _ _); walk_at "dlTW")
  | ((with_reducible show SsW _ _ _ _ _); walk_at "dlSs")
  | ((with_reducible show SW _ _ _ _ _); walk_at "dlSW")
  | walk_at "dlI"
  | walk_at "dlO"
  | walk_at "dlD")
local macro_rules | `(tactic| walk_at "dl") => `(tactic| repeat' (walk_at "dl1"))
namespace K92
def topS (i : Nat) : Stmt := PySem.Challenge.pw_turnwise_k92_records_as_lines.main.body.getD i (.Pass ⟨0, 0, 0, 0⟩)
abbrev s_escaped : Stmt := topS 3
theorem sc_escaped : FnScope ["text"] ["text"] (defScope s_escaped) := ⟨rfl, rfl, rfl, by decide +kernel, rfl, by decide +kernel, by decide +kernel⟩
abbrev s_plain : Stmt := topS 4
theorem sc_plain : FnScope ["text", "found", "at"] ["text"] (defScope s_plain) := ⟨rfl, rfl, rfl, by decide +kernel, rfl, by decide +kernel, by decide +kernel⟩
abbrev s_check_of : Stmt := topS 5
theorem sc_check_of : FnScope ["text", "found", "sign"] ["text"] (defScope s_check_of) := ⟨rfl, rfl, rfl, by decide +kernel, rfl, by decide +kernel, by decide +kernel⟩
abbrev s_record : Stmt := topS 6
theorem sc_record : FnScope ["deed", "body"] ["deed"] (defScope s_record) := ⟨rfl, rfl, rfl, by decide +kernel, rfl, by decide +kernel, by decide +kernel⟩
abbrev s_read_record : Stmt := topS 7
theorem sc_read_record : FnScope ["text", "at", "end", "body", "told", "figures", "sign"] ["text", "at"] (defScope s_read_record) := ⟨rfl, rfl, rfl, by decide +kernel, rfl, by decide +kernel, by decide +kernel⟩
abbrev s_appended : Stmt := topS 8
theorem sc_appended : FnScope ["text", "at", "deed"] ["text", "at", "deed"] (defScope s_appended) := ⟨rfl, rfl, rfl, by decide +kernel, rfl, by decide +kernel, by decide +kernel⟩
abbrev s_Lcell : Stmt := topS 10
theorem sc_Lcell : FnScope ["script", "k"] ["script", "k"] (defScope s_Lcell) := ⟨rfl, rfl, rfl, by decide +kernel, rfl, by decide +kernel, by decide +kernel⟩
abbrev s_Ldigits : Stmt := topS 11
theorem sc_Ldigits : FnScope ["script", "first", "last", "digits", "k", "cell", "turn", "seed"] ["script", "first", "last"] (defScope s_Ldigits) := ⟨rfl, rfl, rfl, by decide +kernel, rfl, by decide +kernel, by decide +kernel⟩
abbrev s_Ldraw : Stmt := topS 12
theorem sc_Ldraw : FnScope ["box", "many"] ["box", "many"] (defScope s_Ldraw) := ⟨rfl, rfl, rfl, by decide +kernel, rfl, by decide +kernel, by decide +kernel⟩
abbrev s_Lpick : Stmt := topS 13
theorem sc_Lpick : FnScope ["box", "row"] ["box", "row"] (defScope s_Lpick) := ⟨rfl, rfl, rfl, by decide +kernel, rfl, by decide +kernel, by decide +kernel⟩
abbrev s_Lsame : Stmt := topS 14
theorem sc_Lsame : FnScope ["told", "due", "k"] ["told", "due"] (defScope s_Lsame) := ⟨rfl, rfl, rfl, by decide +kernel, rfl, by decide +kernel, by decide +kernel⟩
abbrev s_Lcheck : Stmt := topS 15
theorem sc_Lcheck : FnScope ["text", "mark", "sign"] ["text"] (defScope s_Lcheck) := ⟨rfl, rfl, rfl, by decide +kernel, rfl, by decide +kernel, by decide +kernel⟩
abbrev s_Lescaped : Stmt := topS 16
theorem sc_Lescaped : FnScope ["text", "found", "sign"] ["text"] (defScope s_Lescaped) := ⟨rfl, rfl, rfl, by decide +kernel, rfl, by decide +kernel, by decide +kernel⟩
abbrev s_Lsealed : Stmt := topS 17
theorem sc_Lsealed : FnScope ["body"] ["body"] (defScope s_Lsealed) := ⟨rfl, rfl, rfl, by decide +kernel, rfl, by decide +kernel, by decide +kernel⟩
abbrev s_Lrecord : Stmt := topS 18
theorem sc_Lrecord : FnScope ["deed"] ["deed"] (defScope s_Lrecord) := ⟨rfl, rfl, rfl, by decide +kernel, rfl, by decide +kernel, by decide +kernel⟩
abbrev s_Lplain : Stmt := topS 19
theorem sc_Lplain : FnScope ["text", "found", "marked", "sign"] ["text"] (defScope s_Lplain) := ⟨rfl, rfl, rfl, by decide +kernel, rfl, by decide +kernel, by decide +kernel⟩
abbrev s_Lread : Stmt := topS 20
theorem sc_Lread : FnScope ["text", "at", "ends", "row", "told", "figures", "fine", "number", "sign", "k"] ["text", "at"] (defScope s_Lread) := ⟨rfl, rfl, rfl, by decide +kernel, rfl, by decide +kernel, by decide +kernel⟩
abbrev s_Lsigns : Stmt := topS 21
theorem sc_Lsigns : FnScope ["box", "k"] ["box"] (defScope s_Lsigns) := ⟨rfl, rfl, rfl, by decide +kernel, rfl, by decide +kernel, by decide +kernel⟩
abbrev s_Lspoilt : Stmt := topS 22
theorem sc_Lspoilt : FnScope ["box", "deed", "body", "kind", "row", "at"] ["box", "deed"] (defScope s_Lspoilt) := ⟨rfl, rfl, rfl, by decide +kernel, rfl, by decide +kernel, by decide +kernel⟩
abbrev s_law : Stmt := topS 23
theorem sc_law : FnScope ["script", "box", "turn", "text", "deed", "row", "junk", "tail", "step", "bent"] ["script"] (defScope s_law) := ⟨rfl, rfl, rfl, by decide +kernel, rfl, by decide +kernel, by decide +kernel⟩
section
variable {P : Program} {w : World} {K : PySem.W.Frag} {mg : Str → Option Value} {base : Heap} {n : Nat}
/-! ### what every law's text has: cell, digits, draw -/
def dI (ns : List Int) : List PyData := ns.map .int
theorem dI_len (ns : List Int) : (dI ns).length = ns.length := by simp [dI]
theorem dI_get {ns : List Int} {i : Nat} {z : Int} (h : ns[i]? = some z) : (dI ns)[i]? = some (.int z) := by
  unfold dI
  rw [List.getElem?_map, h]
  rfl
theorem dI_app (ns : List Int) (z : Int) : dI ns ++ [.int z] = dI (ns ++ [z]) := by simp [dI]
def w_Lcell : GA := fun ds P => ∃ (ns : List Int) (k : Nat), ds = [.list (dI ns), .int k] ∧ P (.int (ns.getD k 0))
theorem ok_Lcell {f : Addr} {fd : FuncData} (F : Fun K "_law_cell" "_law_cell" s_Lcell f fd) (m_len : mg "len" = none) : FnG P w K mg base (n + 1) f fd ["script", "k"] (SpP K w_Lcell) := by
  refine fg_pure F sc_Lcell (fun ds post ⟨ns, k, e, _⟩ => by rw [e]; rfl) fun cdv A outer s H E ds post hr hgd ⟨ns, k, e, q⟩ => ?_
  subst e
  have nd := sc_Lcell.nd
  refine ssw_cons ?_
  show SW _ _ _ [.pd (.list (dI ns)), .pd (.int k)] _
  walk_at "dl"
  rw [dI_len]
  refine ⟨fun h => ?_, fun h => ?_⟩
  · have h : (k : Int) < (ns.length : Int) := of_decide_eq_true h
    have hk : k < ns.length := by omega
    walk_at "dl"
    refine ⟨.int ns[k], atI_nat (dI_get (List.getElem?_eq_getElem hk)), ?_⟩
    rw [List.getD_eq_getElem?_getD, List.getElem?_eq_getElem hk] at q
    exact q
  · have h : ¬ (k : Int) < (ns.length : Int) := of_decide_eq_false h
    walk_at "dl"
    rw [List.getD_eq_getElem?_getD, List.getElem?_eq_none (by omega)] at q
    exact q
/-- some list of dI, none negative -/
def w_Ldigits : GA := fun ds P => ∃ (ns : List Int) (n : Nat), ds = [.list (dI ns), .int 0, .int n] ∧ n ≤ 100 ∧ ∀ gs : List Int, (∀ g ∈ gs, 0 ≤ g) → P (.list (dI gs))
theorem nn_app {gs : List Int} {z : Int} (h : ∀ g ∈ gs, 0 ≤ g) (hz : 0 ≤ z) : ∀ g ∈ gs ++ [z], 0 ≤ g := fun g m => by
  rcases List.mem_append.mp m with m | m
  · exact h g m
  · rw [List.mem_singleton.mp m]
    exact hz
theorem ok_Ldigits {f : Addr} {fd : FuncData} (F : Fun K "_law_digits" "_law_digits" s_Ldigits f fd) (m_range : mg "range" = none) (m_int : mg "int" = none) (c_Lcell : CalP P w K mg base n "_law_cell" w_Lcell) : FnG P w K mg base (n + 1) f fd ["script", "first", "last"] (SpP K w_Ldigits) := by
  refine fg_pure F sc_Ldigits (fun ds post ⟨ns, k, e, _⟩ => by rw [e]; rfl) fun cdv A outer s H E ds post hr hgd ⟨ns, n, e, hn, q⟩ => ?_
  subst e
  have nd := sc_Ldigits.nd
  have o3 : Ow 3 := trivial
  refine ssw_cons ?_
  show SW _ _ _ [.pd (.list (dI ns)), .pd (.int 0), .pd (.int n), .un, .un, .un, .un, .un] _
  walk_at "dl"
  refine sw_for (ts := [4]) PassesOwn.never rfl (by decide) (iw_rng2 rfl (by assumption) ?_)
  walk_at "dl"
  refine ⟨0, n, rfl, by omega, ?_⟩
  rw [show ((n : Int) - 0).toNat = n by omega]
  refine ⟨fun i ρ => ∃ gs a b c d, ρ = [.pd (.list (dI ns)), .pd (.int 0), .pd (.int n), .ow (.lst (dI gs)), a, b, c, d] ∧ gs.length ≤ 60 * i ∧ ∀ g ∈ gs, 0 ≤ g, ⟨[], .un, .un, .un, .un, rfl, Nat.le_refl _, by simp⟩, ?_, ?_⟩
  · rintro i x ρ hx ⟨gs, a, b, c, d, rfl, hl, hg⟩
    have hi : i < n := by
      have := (List.getElem?_eq_some_iff.mp hx).1
      rw [rangeD_length] at this
      exact this
    rw [rangeD_get hi, Int.zero_add] at hx
    cases hx
    refine gw_name 4 (pg_name (i := 4) nd rfl (.inl rfl)) (by decide) ?_
    walk_at "dl"
    refine ⟨ns, i, rfl, ?_⟩
    walk_at "dl"
    refine if_join (fun ρ' => ∃ cell : Int, 0 ≤ cell ∧ ρ' = [.pd (.list (dI ns)), .pd (.int 0), .pd (.int n), .ow (.lst (dI gs)), .pd (.int i), .pd (.int cell), c, d]) (fun h => ?_) (fun h => ?_) ?_
    · have h : ns.getD i 0 < 0 := of_decide_eq_true h
      walk_at "dl"
      exact ⟨_, by omega, rfl⟩
    · have h : ¬ ns.getD i 0 < 0 := of_decide_eq_false h
      walk_at "dl"
      exact ⟨_, by omega, rfl⟩
    · rintro ρ ⟨cell, hc, rfl⟩
      walk_at "dl"
      refine ⟨fun _ => ?_, fun h => ?_⟩
      · -- a great one
        walk_at "dl"
        refine sw_for (ts := [6]) PassesOwn.never rfl (by decide) (iw_rng1 rfl (by assumption) ?_)
        walk_at "dl"
        refine ⟨60, rfl, by decide, ?_⟩
        refine ⟨fun j ρ => ∃ gs cell t, ρ = [.pd (.list (dI ns)), .pd (.int 0), .pd (.int n), .ow (.lst (dI gs)), .pd (.int i), .pd (.int cell), t, d] ∧ gs.length ≤ 60 * i + j ∧ ∀ g ∈ gs, 0 ≤ g, ⟨gs, cell, c, rfl, by omega, hg⟩, ?_, ?_⟩
        · rintro j x ρ hx ⟨gs, cell, t, rfl, hl, hg⟩
          refine gw_name 6 (pg_name (i := 6) nd rfl (.inl rfl)) (by decide) ?_
          have hj := (List.getElem?_eq_some_iff.mp hx).1
          rw [rangeD_length] at hj
          walk_at "dl"
          refine ⟨fun h => ?_, fun h => ?_⟩
          · have h : 0 < cell := of_decide_eq_true h
            walk_at "dl"
            refine ⟨_, rfl, by rw [dI_len]; have := hj; omega, ?_⟩
            rw [dI_app]
            walk_at "dl"
            exact ⟨_, _, _, rfl, by rw [List.length_append, List.length_singleton]; omega, nn_app hg (Int.emod_nonneg _ (by decide))⟩
          · walk_at "dl"
            exact ⟨_, _, _, rfl, by omega, hg⟩
        · rintro ρ ⟨gs, cell, t, rfl, hl, hg⟩
          rw [rangeD_length] at hl
          walk_at "dl"
          exact ⟨gs, _, _, _, _, rfl, by have : (60 : Int).toNat = 60 := rfl; omega, hg⟩
      · -- a lesser one
        have h : ¬ (10 : Int) ^ (18 : Int).toNat ≤ cell := of_decide_eq_false h
        walk_at "dl"
        refine sw_for (ts := [6]) PassesOwn.never rfl (by decide) (iw_rng1 rfl (by assumption) ?_)
        walk_at "dl"
        refine ⟨12, rfl, by decide, ?_⟩
        refine ⟨fun j ρ => ∃ gs t seed, ρ = [.pd (.list (dI ns)), .pd (.int 0), .pd (.int n), .ow (.lst (dI gs)), .pd (.int i), .pd (.int cell), t, .pd (.int seed)] ∧ 0 ≤ seed ∧ gs.length ≤ 60 * i + j ∧ ∀ g ∈ gs, 0 ≤ g, ⟨gs, c, _, rfl, Int.emod_nonneg _ (by decide), by omega, hg⟩, ?_, ?_⟩
        · rintro j x ρ hx ⟨gs, t, seed, rfl, hs, hl, hg⟩
          have hj := (List.getElem?_eq_some_iff.mp hx).1
          rw [rangeD_length] at hj
          rw [rangeD_get hj] at hx
          cases hx
          refine gw_name 6 (pg_name (i := 6) nd rfl (.inl rfl)) (by decide) ?_
          walk_at "dl"
          refine ⟨_, rfl, by rw [dI_len]; have := hj; omega, ?_⟩
          rw [dI_app]
          walk_at "dl"
          exact ⟨_, _, _, rfl, Int.emod_nonneg _ (by decide), by rw [List.length_append, List.length_singleton]; omega, nn_app hg (Int.emod_nonneg _ (by decide))⟩
        · rintro ρ ⟨gs, t, seed, rfl, hs, hl, hg⟩
          rw [rangeD_length] at hl
          walk_at "dl"
          exact ⟨gs, _, _, _, _, rfl, by have : (12 : Int).toNat = 12 := rfl; omega, hg⟩
  · rintro ρ ⟨gs, a, b, c, d, rfl, hl, hg⟩
    refine freeze 3 rfl ?_
    walk_at "dl"
    exact q gs hg

end
section
variable {P : Program} {w : World} {K : PySem.W.Frag} {mg : Str → Option Value} {base : Heap} {n : Nat}
def BoxOk (bs : List PyData) : Prop := ∃ (gs : List Int) (p : Nat), bs = [.list (dI gs), .int p] ∧ ∀ g ∈ gs, 0 ≤ g
def w_Ldraw : GAB := fun bs ds P => ∃ m : Int, ds = [.int m] ∧ 0 < m ∧ BoxOk bs ∧ ∀ (r : Nat) bs', (r : Int) < m → BoxOk bs' → P (.int r) bs'
theorem nat_of {z : Int} (h : 0 ≤ z) : ∃ n : Nat, z = n := ⟨z.toNat, by omega⟩
theorem mod_fits {z m : Int} (hm : 0 < m) : ∃ r : Nat, z % m = r ∧ (r : Int) < m := ⟨(z % m).toNat, by have := Int.emod_nonneg z (by omega : m ≠ 0); omega, by have := Int.emod_nonneg z (by omega : m ≠ 0); have := Int.emod_lt_of_pos z hm; omega⟩
theorem ok_Ldraw {f : Addr} {fd : FuncData} (F : Fun K "_law_draw" "_law_draw" s_Ldraw f fd) (m_len : mg "len" = none) (m_int : mg "int" = none) : FnG P w K mg base (n + 1) f fd ["box", "many"] (SpB K w_Ldraw) := by
  refine fg_box F sc_Ldraw (fun bs ds post ⟨m, e, _⟩ => by rw [e]; rfl) fun cdv A outer s H E bs ds post hr hgd ⟨m, e, hm, hb, q⟩ => ?_
  subst e
  obtain ⟨gs, p, rfl, hg⟩ := hb
  have nd := sc_Ldraw.nd
  refine ssw_cons ?_
  show SW _ _ _ [.ow (.lst [.list (dI gs), .int p]), .pd (.int m)] _
  walk_at "dl"
  have hbox : BoxOk [.list (dI gs), .int ((p : Int) + 1)] := ⟨gs, p + 1, rfl, hg⟩
  refine ⟨fun h => ?_, fun h => ?_⟩
  · walk_at "dl"
    refine ⟨by omega, ?_⟩
    obtain ⟨r, e, hr⟩ := mod_fits (z := ((p : Int) + 1) * 7 + 3) hm
    exact ⟨_, rfl, by rw [e]; exact q r _ hr hbox⟩
  · have h : ¬ ((dI gs).length : Int) < (p : Int) + 1 := of_decide_eq_false h
    rw [dI_len] at h
    have hp : p < gs.length := by omega
    walk_at "dl"
    refine ⟨.int gs[p], ?_, ?_⟩
    · rw [show (p : Int) + 1 - 1 = p by omega]
      exact atI_nat (dI_get (List.getElem?_eq_getElem hp))
    walk_at "dl"
    refine ⟨by omega, ?_⟩
    obtain ⟨r, e, hr⟩ := mod_fits (z := gs[p]) hm
    exact ⟨_, rfl, by rw [e]; exact q r _ hr hbox⟩
end
section
variable {P : Program} {w : World} {K : PySem.W.Frag} {mg : Str → Option Value} {base : Heap} {n : Nat}
def v_Lsame (m : Nat) : GA := fun ds P => ∃ d, ds = [d, d] ∧ SameOk m d ∧ P (.bool true)
def w_Lsame : GA := v_Lsame 30
theorem ok_Lsame {f : Addr} {fd : FuncData} (F : Fun K "_law_same" "_law_same" s_Lsame f fd) (m_isinstance : mg "isinstance" = none) (m_str : mg "str" = none) (m_int : mg "int" = none) (m_range : mg "range" = none) (m_len : mg "len" = none) (m_tuple : mg "tuple" = none) (m_list : mg "list" = none) (m_repr : mg "repr" = none) (m_bool : mg "bool" = none) {m : Nat} (c_Lsame : ∀ m', m = m' + 1 → CalP P w K mg base n "_law_same" (v_Lsame m')) : FnG P w K mg base (n + 1) f fd ["told", "due"] (SpP K (v_Lsame m)) := by
  refine fg_pure F sc_Lsame (fun ds post ⟨d, e, _⟩ => by rw [e]; rfl) fun cdv A outer s H E ds post hr hgd ⟨d, e, ok, q⟩ => ?_
  subst e
  have nd := sc_Lsame.nd
  have hu := hu_room hr
  refine ssw_cons ?_
  show SW _ _ _ [.pd d, .pd d, .un] _
  cases d with
  | none =>
    walk_at "dl"
    exact q
  | bool b =>
    cases b
    · walk_at "dl"
      exact q
    · walk_at "dl"
      exact q
  | int i =>
    have ok : i.natAbs.log2 < 1920 := by cases m <;> exact ok
    walk_at "dl"
    refine ⟨ok, ?_⟩
    walk_at "dl"
    refine ⟨ok, ?_⟩
    walk_at "dl"
    rw [decide_eq_true rfl]
    exact q
  | str z =>
    have ok : (reprText z).length ≤ 16777216 := by cases m <;> exact ok
    walk_at "dl"
    refine ⟨ok, ?_⟩
    walk_at "dl"
    refine ⟨ok, ?_⟩
    walk_at "dl"
    rw [decide_eq_true rfl]
    exact q
  | dict kv => cases m <;> exact ok.elim
  | list xs =>
    cases m with
    | zero => exact ok.elim
    | succ m =>
    have c_Lsame := c_Lsame m rfl
    walk_at "dl"
    rw [decide_eq_true rfl]
    walk_at "dl"
    refine sw_for (ts := [2]) PassesOwn.never rfl (by decide) (iw_rng1 rfl (by assumption) ?_)
    walk_at "dl"
    refine ⟨xs.length, rfl, by have := ok.1; omega, ?_⟩
    rw [show ((xs.length : Int)).toNat = xs.length by omega]
    refine ⟨fun i ρ => ∃ a, ρ = [.pd (.list xs), .pd (.list xs), a], ⟨_, rfl⟩, ?_, ?_⟩
    · rintro j x ρ hx ⟨a, rfl⟩
      have hj := (List.getElem?_eq_some_iff.mp hx).1
      rw [rangeD_length] at hj
      rw [rangeD_get hj, Int.zero_add] at hx
      cases hx
      refine gw_name 2 (pg_name (i := 2) nd rfl (.inl rfl)) (by decide) ?_
      walk_at "dl"
      refine ⟨xs[j], atI_nat (List.getElem?_eq_getElem hj), ?_⟩
      walk_at "dl"
      refine ⟨xs[j], atI_nat (List.getElem?_eq_getElem hj), ?_⟩
      walk_at "dl"
      refine ⟨_, rfl, ok.2 _ (List.getElem_mem hj), ?_⟩
      walk_at "dl"
      exact ⟨_, rfl⟩
    · rintro ρ ⟨a, rfl⟩
      walk_at "dl"
      exact q
  | tuple xs =>
    cases m with
    | zero => exact ok.elim
    | succ m =>
    have c_Lsame := c_Lsame m rfl
    walk_at "dl"
    rw [decide_eq_true rfl]
    walk_at "dl"
    refine sw_for (ts := [2]) PassesOwn.never rfl (by decide) (iw_rng1 rfl (by assumption) ?_)
    walk_at "dl"
    refine ⟨xs.length, rfl, by have := ok.1; omega, ?_⟩
    rw [show ((xs.length : Int)).toNat = xs.length by omega]
    refine ⟨fun i ρ => ∃ a, ρ = [.pd (.tuple xs), .pd (.tuple xs), a], ⟨_, rfl⟩, ?_, ?_⟩
    · rintro j x ρ hx ⟨a, rfl⟩
      have hj := (List.getElem?_eq_some_iff.mp hx).1
      rw [rangeD_length] at hj
      rw [rangeD_get hj, Int.zero_add] at hx
      cases hx
      refine gw_name 2 (pg_name (i := 2) nd rfl (.inl rfl)) (by decide) ?_
      walk_at "dl"
      refine ⟨xs[j], atI_nat (List.getElem?_eq_getElem hj), ?_⟩
      walk_at "dl"
      refine ⟨xs[j], atI_nat (List.getElem?_eq_getElem hj), ?_⟩
      walk_at "dl"
      refine ⟨_, rfl, ok.2 _ (List.getElem_mem hj), ?_⟩
      walk_at "dl"
      exact ⟨_, rfl⟩
    · rintro ρ ⟨a, rfl⟩
      walk_at "dl"
      exact q
end
section
variable {P : Program} {w : World} {K : PySem.W.Frag} {mg : Str → Option Value} {base : Heap} {n : Nat}
/-! ### texts -/
theorem l0 : Str.ofString "" = S [] := by decide +kernel
theorem lNl : Str.ofString "\n" = S [10] := by decide +kernel
theorem lBs : Str.ofString "\\" = S [92] := by decide +kernel
theorem lBb : Str.ofString "\\\\" = S [92, 92] := by decide +kernel
theorem lBn : Str.ofString "\\n" = S [92, 110] := by decide +kernel
theorem lN : Str.ofString "n" = S [110] := by decide +kernel
theorem lPl : Str.ofString "+" = S [43] := by decide +kernel
theorem lMi : Str.ofString "-" = S [45] := by decide +kernel
theorem l00 : Str.ofString "0" = S [48] := by decide +kernel
theorem l000 : Str.ofString "000" = S (List.replicate 3 48) := by decide +kernel
theorem sgn_eq (c k : Nat) : decide ((⟨#[c]⟩ : Str) = S [k]) = decide (c = k) := by
  rw [show (⟨#[c]⟩ : Str) = S [c] from rfl, S_dec]
  simp
theorem sgnL {x : Str} {c k : Nat} (e : x = S [k]) : decide ((⟨#[c]⟩ : Str) = x) = decide (c = k) := by rw [e, sgn_eq]
theorem s_size (l : List Nat) : l.toArray.size = l.length := by simp
theorem tx_ok {l : List Nat} (h : ∀ c ∈ l, c < 128) : PyData.strOk (S l) = true := by
  unfold PyData.strOk
  rw [Array.all_eq_true_iff_forall_mem]
  intro c hc
  have hc : c ∈ l := by simpa [S] using hc
  have := h c hc
  simp only [decide_eq_true_eq]
  omega
def w_escaped : GA := fun ds P => ∃ l : List Nat, ds = [.str (S l)] ∧ l.length ≤ 1000 ∧ P (.str (S (esc l)))
theorem ok_escaped {f : Addr} {fd : FuncData} (F : Fun K "escaped" "escaped" s_escaped f fd) : FnG P w K mg base (n + 1) f fd ["text"] (SpP K w_escaped) := by
  refine fg_tok F sc_escaped (by decide +kernel) (Nat.le_refl _) (fun ds post ⟨l, e, _⟩ => by rw [e]; rfl) fun cdv A outer s H Hb E vs ds post Q hr sb da ⟨l, e, hl, q⟩ r => ?_
  subst e
  cases da with
  | cons h1 t =>
    cases t
    cases h1
    refine ⟨_, CwR.psst_one (CwR.pst_ret (CwR.pet_replT (CwR.pet_replC (pe_var (i := 0) rfl (.inl rfl))))), ?_⟩
    have e1 : Txt.replace (S l) (Str.ofString "\\") (Str.ofString "\\\\") = S (subst1 92 [92, 92] l) := by rw [lBs, lBb, S_replace]
    have e2 : Txt.replace (S (subst1 92 [92, 92] l)) (Str.ofString "\n") (Str.ofString "\\n") = S (esc l) := by rw [lNl, lBn, S_replace, esc_subst]
    have hn := subst_len 92 [92, 92] 1 (Nat.le_refl _) l
    refine ⟨.str (S l), rfl, S l, rfl, ?_, ?_⟩
    · rw [lBb, S_len, S_len]
      show l.length + (l.length + 1) * 2 ≤ 16777216
      omega
    rw [e1]
    refine ⟨_, rfl, ?_, ?_⟩
    · rw [lBn, S_len, S_len]
      show (subst1 92 [92, 92] l).length + ((subst1 92 [92, 92] l).length + 1) * 2 ≤ 16777216
      omega
    rw [e2]
    exact r.val sb (.str _) q
end
section
variable {P : Program} {w : World} {K : PySem.W.Frag} {mg : Str → Option Value} {base : Heap} {n : Nat}
def w_plain : GA := fun ds P => ∃ l : List Nat, ds = [.str (S l)] ∧ l.length ≤ 1000 ∧ (∀ c ∈ l, c < 128) ∧ P (optD (unesc l))
theorem in_two (x : Str) : inD (.str x) [.str (Str.ofString "\\"), .str (Str.ofString "n")] = (decide (x = S [92]) || decide (x = S [110])) := by
  unfold inD
  rw [lBs, lN]
  simp only [List.any_cons, List.any_nil, eqv_str, Bool.or_false]
  rw [decide_eq_decide.mpr (eq_comm (a := S [92]) (b := x)), decide_eq_decide.mpr (eq_comm (a := S [110]) (b := x))]
theorem lay_two : PyData.canLayAll0 [.str (Str.ofString "\\"), .str (Str.ofString "n")] = true := by decide +kernel
theorem ok_plain {f : Addr} {fd : FuncData} (F : Fun K "plain" "plain" s_plain f fd) (m_len : mg "len" = none) : FnG P w K mg base (n + 1) f fd ["text"] (SpP K w_plain) := by
  refine fg_pure F sc_plain (fun ds post ⟨l, e, _⟩ => by rw [e]; rfl) fun cdv A outer s H E ds post hr hgd ⟨l, e, hl, hc, q⟩ => ?_
  subst e
  have nd := sc_plain.nd
  have hu := hu_room hr
  refine ssw_cons ?_
  show SW _ _ _ [.pd (.str (S l)), .un, .un] _
  walk_at "dl"
  rw [l0]
  refine sw_while PassesOwn.never (fun m ρ => ∃ f k, (k ≤ l.length ∧ f.length ≤ k ∧ unesc l = (unesc (l.drop k)).map (f ++ ·)) ∧ m = l.length - k ∧ ρ = [.pd (.str (S l)), .pd (.str (S f)), .pd (.int (k : Nat))]) l.length ⟨[], 0, ⟨Nat.zero_le _, Nat.le_refl _, by rw [List.drop_zero]; cases unesc l <;> rfl⟩, rfl, rfl⟩ ?_
  rintro m ρ ⟨f, k, ⟨hk, hf, hu2⟩, rfl, rfl⟩
  walk_at "dl"
  rw [S_len]
  refine ⟨by omega, ?_⟩
  walk_at "dl"
  refine ⟨fun h => ?_, fun h => ?_⟩
  · have hk2 : k < l.length := by have := of_decide_eq_true h; omega
    have hd : l.drop k = l[k] :: l.drop (k + 1) := List.drop_eq_getElem_cons hk2
    generalize hcv : l[k] = c at hd
    have hg : l[k]? = some c := by rw [← hcv]; exact List.getElem?_eq_getElem hk2
    walk_at "dl"
    refine ⟨by rw [S_len]; omega, c, S_at hg, ?_⟩
    walk_at "dl"
    rw [sgnL lNl]
    refine ⟨fun h => ?_, fun h => ?_⟩
    · have h := of_decide_eq_true h
      subst h
      walk_at "dl"
      rw [hu2, hd, unesc_nl] at q
      exact q
    · have h10 : ¬ c = 10 := of_decide_eq_false h
      walk_at "dl"
      refine ⟨by rw [S_len]; omega, c, S_at hg, ?_⟩
      walk_at "dl"
      rw [sgnL lBs]
      refine ⟨fun h => ?_, fun h => ?_⟩
      · have h := of_decide_eq_true h
        subst h
        walk_at "dl"
        refine ⟨by rw [S_len]; omega, ?_⟩
        rw [show (k : Int) + 1 = ((k + 1 : Nat) : Int) from rfl, show (k : Int) + 2 = ((k + 2 : Nat) : Int) from rfl, S_cutN, show k + 2 - (k + 1) = 1 by omega]
        have hlay : (PyData.str (S ((l.drop (k + 1)).take 1))).canLay0 = true := by
          simp only [PyData.canLay0]
          exact tx_ok fun c m => hc c (List.mem_of_mem_drop (List.mem_of_mem_take m))
        walk_at "dl"
        refine ⟨hlay, lay_two, Nat.zero_le _, ?_⟩
        rw [in_two, S_dec, S_dec]
        walk_at "dl"
        refine ⟨fun h => ?_, fun h => ?_⟩
        · walk_at "dl"
          rw [hu2, hd] at q
          cases hr2 : l.drop (k + 1) with
          | nil =>
            rw [hr2, unesc_b1] at q
            exact q
          | cons d r =>
            rw [hr2] at h q
            have h : (!(decide ([d] = [92]) || decide ([d] = [110]))) = true := h
            have h1 : d ≠ 92 := fun z => by rw [z] at h; simp at h
            have h2 : d ≠ 110 := fun z => by rw [z] at h; simp at h
            rw [unesc_bx r h1 h2] at q
            exact q
        · walk_at "dl"
          cases hr2 : l.drop (k + 1) with
          | nil =>
            rw [hr2] at h
            simp at h
          | cons d r =>
            rw [hr2] at h
            have h : (!(decide ([d] = [92]) || decide ([d] = [110]))) = false := h
            have h12 : d = 92 ∨ d = 110 := by
              by_cases z : d = 92
              · exact .inl z
              · refine .inr ?_
                by_cases y : d = 110
                · exact y
                · simp [z, y] at h
            have hg1 : l[k + 1]? = some d := by
              have : (l.drop (k + 1))[0]? = some d := by rw [hr2]; rfl
              rw [List.getElem?_drop] at this
              exact this
            have hk1 : k + 1 < l.length := (List.getElem?_eq_some_iff.mp hg1).1
            have hr3 : l.drop (k + 2) = r := by
              have : (l.drop (k + 1)).tail = r := by rw [hr2]; rfl
              rw [List.tail_drop] at this
              exact this
            refine ⟨by rw [S_len]; omega, d, S_at hg1, ?_⟩
            walk_at "dl"
            rw [sgnL lN]
            refine ⟨fun h => ?_, fun h => ?_⟩
            · have h := of_decide_eq_true h
              subst h
              walk_at "dl"
              rw [lNl, S_len]
              refine ⟨by show f.length + 1 ≤ 16777216; omega, ?_⟩
              rw [S_app]
              walk_at "dl"
              refine ⟨l.length - (k + 2), by omega, f ++ [10], k + 2, ⟨by omega, by simp; omega, ?_⟩, rfl, rfl⟩
              rw [hu2, hd, hr2, unesc_bn, hr3, Option.map_map]
              cases unesc r <;> simp
            · have h1 : d = 92 := h12.resolve_right (of_decide_eq_false h)
              subst h1
              walk_at "dl"
              rw [lBs, S_len]
              refine ⟨by show f.length + 1 ≤ 16777216; omega, ?_⟩
              rw [S_app]
              walk_at "dl"
              refine ⟨l.length - (k + 2), by omega, f ++ [92], k + 2, ⟨by omega, by simp; omega, ?_⟩, rfl, rfl⟩
              rw [hu2, hd, hr2, unesc_bs, hr3, Option.map_map]
              cases unesc r <;> simp
      · have h92 : ¬ c = 92 := of_decide_eq_false h
        walk_at "dl"
        refine ⟨by rw [S_len]; omega, c, S_at hg, ?_⟩
        walk_at "dl"
        rw [S_len]
        refine ⟨by show f.length + 1 ≤ 16777216; omega, ?_⟩
        rw [show (⟨#[c]⟩ : Str) = S [c] from rfl, S_app]
        walk_at "dl"
        refine ⟨l.length - (k + 1), by omega, f ++ [c], k + 1, ⟨by omega, by simp; omega, ?_⟩, rfl, rfl⟩
        rw [hu2, hd, unesc_ot _ h10 h92, Option.map_map]
        cases unesc (l.drop (k + 1)) <;> simp
  · have hk2 : k = l.length := by have := of_decide_eq_false h; omega
    walk_at "dl"
    rw [hu2, hk2, List.drop_length, unesc] at q
    rw [show S f = S (f ++ []) by simp]
    exact q
end
section
variable {P : Program} {w : World} {K : PySem.W.Frag} {mg : Str → Option Value} {base : Heap} {n : Nat}
theorem fold_take {α β : Type} {f : β → α → β} {b : β} {l : List α} {i : Nat} {c : α} (h : l[i]? = some c) : (l.take (i + 1)).foldl f b = f ((l.take i).foldl f b) c := by
  rw [List.take_add_one, h, List.foldl_append]
  rfl
def w_check_of : GA := fun ds P => ∃ l : List Nat, ds = [.str (S l)] ∧ l.length ≤ 100000 ∧ P (.str (S (chkT l)))
theorem ok_check_of {f : Addr} {fd : FuncData} (F : Fun K "check_of" "check_of" s_check_of f fd) (m_ord : mg "ord" = none) {t_MOST_CHECK : Tok} (m_MOST_CHECK : mg "MOST_CHECK" = some (.int 9973 t_MOST_CHECK)) : FnG P w K mg base (n + 1) f fd ["text"] (SpP K w_check_of) := by
  refine fg_pure F sc_check_of (fun ds post ⟨l, e, _⟩ => by rw [e]; rfl) fun cdv A outer s H E ds post hr hgd ⟨l, e, hl, q⟩ => ?_
  subst e
  have nd := sc_check_of.nd
  refine ssw_cons ?_
  show SW _ _ _ [.pd (.str (S l)), .un, .un] _
  walk_at "dl"
  refine sw_for (ts := [2]) PassesOwn.never rfl (by decide) ?_
  walk_at "dl"
  refine ⟨by rw [S_len]; omega, ?_⟩
  rw [S_sgn]
  refine mpJ (fun i ρ => ∃ a, ρ = [.pd (.str (S l)), .pd (.int (((l.take i).foldl (fun m c => (m * 131 + c) % 9973) 1 : Nat) : Int)), a]) ⟨_, rfl⟩ ?_ ?_
  · rintro i c ρ hc ⟨a, rfl⟩
    walk_at "dl"
    refine ⟨rfl, ?_⟩
    walk_at "dl"
    rw [fold_take hc]
    exact ⟨_, rfl⟩
  · rintro ρ ⟨a, rfl⟩
    rw [List.take_length]
    walk_at "dl"
    exact ⟨_, rfl, Nat.lt_trans (chkN_lt l) (by decide), q⟩
def w_Lcheck : GA := w_check_of
theorem ok_Lcheck {f : Addr} {fd : FuncData} (F : Fun K "_law_check" "_law_check" s_Lcheck f fd) (m_int : mg "int" = none) (m_str : mg "str" = none) (m_ord : mg "ord" = none) : FnG P w K mg base (n + 1) f fd ["text"] (SpP K w_Lcheck) := by
  refine fg_pure F sc_Lcheck (fun ds post ⟨l, e, _⟩ => by rw [e]; rfl) fun cdv A outer s H E ds post hr hgd ⟨l, e, hl, q⟩ => ?_
  subst e
  have nd := sc_Lcheck.nd
  refine ssw_cons ?_
  show SW _ _ _ [.pd (.str (S l)), .un, .un] _
  walk_at "dl"
  refine sw_for (ts := [2]) PassesOwn.never rfl (by decide) ?_
  walk_at "dl"
  refine ⟨by rw [S_len]; omega, ?_⟩
  rw [S_sgn]
  refine mpJ (fun i ρ => ∃ a, ρ = [.pd (.str (S l)), .pd (.int (((l.take i).foldl (fun m c => (m * 131 + c) % 9973) 1 : Nat) : Int)), a]) ⟨_, rfl⟩ ?_ ?_
  · rintro i c ρ hc ⟨a, rfl⟩
    walk_at "dl"
    refine ⟨rfl, ?_⟩
    walk_at "dl"
    rw [fold_take hc]
    exact ⟨_, rfl⟩
  · rintro ρ ⟨a, rfl⟩
    rw [List.take_length]
    have hn : chkN l < 10000 := Nat.lt_trans (chkN_lt l) (by decide)
    walk_at "dl"
    refine ⟨log_ok (Nat.lt_trans hn (by decide)), ?_⟩
    rw [show (Str.ofString (toString (((l.foldl (fun m c => (m * 131 + c) % 9973) 1 : Nat)) : Int))) = S (dig (chkN l)) from dig_str _, l000]
    have h1 := dig_pos (chkN l)
    have h2 := dig_le hn
    walk_at "dl"
    rw [S_len, S_len, List.length_replicate]
    refine ⟨by omega, ?_⟩
    rw [S_app]
    walk_at "dl"
    have hlen : (List.replicate 3 48 ++ dig (chkN l)).length = 3 + (dig (chkN l)).length := by rw [List.length_append, List.length_replicate]
    refine ⟨by rw [S_len, hlen]; omega, ?_⟩
    rw [show (-4 : Int) = -((4 : Nat) : Int) from rfl, S_cutL _ 4 (by decide) (by rw [hlen]; omega), chk4_cut hn]
    exact q
end
section
variable {P : Program} {w : World} {K : PySem.W.Frag} {mg : Str → Option Value} {base : Heap} {n : Nat}
theorem lAdd : decide (Str.ofString "add" = Str.ofString "add") = true := by decide +kernel
theorem lDrop : decide (Str.ofString "drop" = Str.ofString "add") = false := by decide +kernel
theorem body_len {d : Deed} (h : DeedOk d) : 1 ≤ (bodyT d).length ∧ (bodyT d).length ≤ 201 := by
  cases d with
  | add l =>
    have := esc_len l
    have := h.1
    simp only [bodyT, List.length_cons]
    omega
  | drop n =>
    simp only [DeedOk, List.mem_cons, List.not_mem_nil, or_false] at h
    have := dig_le (n := n) (by omega)
    simp only [bodyT, List.length_cons]
    omega
theorem body_lt {d : Deed} (h : DeedOk d) : ∀ c ∈ bodyT d, c < 128 := by
  intro c m
  cases d with
  | add l =>
    rcases List.mem_cons.mp m with m | m
    · omega
    · exact esc_lt h.2 c m
  | drop n =>
    rcases List.mem_cons.mp m with m | m
    · omega
    · have := dig_fig n c m
      omega
theorem seal_len (b : List Nat) : (sealT b).length = b.length + 5 := by
  unfold sealT
  rw [List.length_append, List.length_append, chkT_len]
  simp
  omega
theorem seal_lt {b : List Nat} (h : ∀ c ∈ b, c < 128) : ∀ c ∈ sealT b, c < 128 := by
  intro c m
  rcases List.mem_append.mp m with m | m
  · rcases List.mem_append.mp m with m | m
    · have := chkT_fig b c m
      omega
    · exact h c m
  · rw [List.mem_singleton.mp m]
    decide
def w_record : GA := fun ds P => ∃ d : Deed, ds = [d.data] ∧ DeedOk d ∧ P (.str (S (recT d)))
theorem ok_record {f : Addr} {fd : FuncData} (F : Fun K "record" "record" s_record f fd) (m_str : mg "str" = none) (c_escaped : CalP P w K mg base n "escaped" w_escaped) (c_check_of : CalP P w K mg base n "check_of" w_check_of) : FnG P w K mg base (n + 1) f fd ["deed"] (SpP K w_record) := by
  refine fg_pure F sc_record (fun ds post ⟨l, e, _⟩ => by rw [e]; rfl) fun cdv A outer s H E ds post hr hgd ⟨d, e, hd, q⟩ => ?_
  subst e
  have nd := sc_record.nd
  have hu := hu_room hr
  have hb := body_len hd
  have hs := seal_len (bodyT d)
  refine ssw_cons ?_
  show SW _ _ _ [.pd d.data, .un] _
  have tail : SsW (DCx P w K mg base ["deed", "body"] "record" (defScope s_record) f cdv A outer s H E) [] (defBody s_record).tail [.pd d.data, .pd (.str (S (bodyT d)))] { nx := fun _ => post .none, rt := fun d _ => post d } := by
    refine ssw_cons ?_
    walk_at "dl"
    refine ⟨bodyT d, rfl, by omega, ?_⟩
    walk_at "dl"
    rw [S_len, S_len, chkT_len]
    refine ⟨by omega, ?_⟩
    rw [S_app]
    walk_at "dl"
    refine ⟨?_, ?_⟩
    · rw [lNl, S_len, S_len, List.length_append, chkT_len]
      simp
      omega
    rw [lNl, S_app]
    exact q
  cases d with
  | add l =>
    have hl := esc_len l
    have h1 := hd.1
    show SW _ _ _ [.pd (.tuple [.str "add", .str (S l)]), .un] _
    walk_at "dl"
    refine ⟨_, rfl, ?_⟩
    walk_at "dl"
    rw [lAdd]
    walk_at "dl"
    refine ⟨_, rfl, ?_⟩
    walk_at "dl"
    refine ⟨l, rfl, by omega, ?_⟩
    walk_at "dl"
    rw [lPl, S_len, S_len]
    refine ⟨by simp; omega, ?_⟩
    rw [S_app]
    exact tail
  | drop n =>
    show SW _ _ _ [.pd (.tuple [.str "drop", .int n]), .un] _
    have hn : n < 10000 := by
      simp only [DeedOk, List.mem_cons, List.not_mem_nil, or_false] at hd
      omega
    have hl := dig_le hn
    walk_at "dl"
    refine ⟨_, rfl, ?_⟩
    walk_at "dl"
    rw [lDrop]
    walk_at "dl"
    refine ⟨_, rfl, ?_⟩
    walk_at "dl"
    refine ⟨log_ok (Nat.lt_trans hn (by decide)), ?_⟩
    rw [dig_str]
    walk_at "dl"
    rw [lMi, S_len, S_len]
    refine ⟨by simp; omega, ?_⟩
    rw [S_app]
    exact tail
def w_appended : GA := fun ds P => ∃ (l : List Nat) (k : Nat) (d : Deed), ds = [.str (S l), .int (k : Nat), d.data] ∧ l.length ≤ 1000 ∧ DeedOk d ∧ P (.str (S (l.take k ++ recT d)))
theorem ok_appended {f : Addr} {fd : FuncData} (F : Fun K "appended" "appended" s_appended f fd) (c_record : CalP P w K mg base n "record" w_record) : FnG P w K mg base (n + 1) f fd ["text", "at", "deed"] (SpP K w_appended) := by
  refine fg_pure F sc_appended (fun ds post ⟨l, k, d, e, _⟩ => by rw [e]; rfl) fun cdv A outer s H E ds post hr hgd ⟨l, k, d, e, hl, hd, q⟩ => ?_
  subst e
  have nd := sc_appended.nd
  have hb := body_len hd
  have hs := seal_len (bodyT d)
  refine ssw_cons ?_
  show SW _ _ _ [.pd (.str (S l)), .pd (.int (k : Nat)), .pd d.data] _
  walk_at "dl"
  refine ⟨by rw [S_len]; omega, ?_⟩
  rw [S_cutT]
  walk_at "dl"
  refine ⟨d, rfl, hd, ?_⟩
  walk_at "dl"
  rw [S_len, S_len, List.length_take]
  refine ⟨by unfold recT; omega, ?_⟩
  rw [S_app]
  exact q
end
section
variable {P : Program} {w : World} {K : PySem.W.Frag} {mg : Str → Option Value} {base : Heap} {n : Nat}
def w_read_record : GA := fun ds P => ∃ (l : List Nat) (k : Nat), ds = [.str (S l), .int (k : Nat)] ∧ k ≤ l.length ∧ l.length ≤ 900 ∧ (∀ c ∈ l, c < 128) ∧ P (readD k (readR (l.drop k)))
theorem cut_row (l : List Nat) (a n : Nat) : (l.drop (a + 4)).take (a + n - (a + 4)) = ((l.drop a).take n).drop 4 := by
  rw [List.drop_take, List.drop_drop, show a + n - (a + 4) = n - 4 by omega]
theorem row_len (l : List Nat) (k e : Nat) (h1 : k ≤ e) (h2 : ∀ j, k ≤ j → j < e → l[j]? ≠ some 10) (h3 : l[e]? = some 10 ∨ e = l.length) (h4 : k ≤ l.length) : e = k + rowN (l.drop k) := by
  have : rowN (l.drop k) = e - k := by
    refine rowN_of _ _ (fun j hj => ?_) ?_
    · rw [List.getElem?_drop]
      exact h2 (k + j) (by omega) (by omega)
    · rcases h3 with h | h
      · right
        rw [List.getElem?_drop, show k + (e - k) = e by omega]
        exact h
      · left
        rw [List.length_drop]
        omega
  omega
theorem lFigs : Str.ofString "0123456789" = S [48, 49, 50, 51, 52, 53, 54, 55, 56, 57] := by decide +kernel
theorem figs_in (c : Nat) : decide (c ∈ [48, 49, 50, 51, 52, 53, 54, 55, 56, 57]) = decide (48 ≤ c ∧ c ≤ 57) := by
  refine decide_eq_decide.mpr ⟨fun h => ?_, fun h => ?_⟩
  · simp only [List.mem_cons, List.not_mem_nil, or_false] at h
    omega
  · simp only [List.mem_cons, List.not_mem_nil, or_false]
    omega
theorem ok_read_record {f : Addr} {fd : FuncData} (F : Fun K "read_record" "read_record" s_read_record f fd) (m_len : mg "len" = none) (m_all : mg "all" = none) (m_int : mg "int" = none) {t_FIGURES : Tok} (m_FIGURES : mg "FIGURES" = some (.str "0123456789" t_FIGURES)) (c_plain : CalP P w K mg base n "plain" w_plain) (c_check_of : CalP P w K mg base n "check_of" w_check_of) : FnG P w K mg base (n + 1) f fd ["text", "at"] (SpP K w_read_record) := by
  refine fg_pure F sc_read_record (fun ds post ⟨l, k, e, _⟩ => by rw [e]; rfl) fun cdv A outer s H E ds post hr hgd ⟨l, k, e, hk, hl, hc, q⟩ => ?_
  subst e
  have nd := sc_read_record.nd
  have hu := hu_room hr
  refine ssw_cons ?_
  show SW _ _ _ [.pd (.str (S l)), .pd (.int (k : Nat)), .un, .un, .un, .un, .un] _
  have tail : SsW (DCx P w K mg base ["text", "at", "end", "body", "told", "figures", "sign"] "read_record" (defScope s_read_record) f cdv A outer s H E) [] ((defBody s_read_record).drop 2) [.pd (.str (S l)), .pd (.int (k : Nat)), .pd (.int ((k + rowN (l.drop k) : Nat) : Int)), .un, .un, .un, .un] { nx := fun _ => post .none, rt := fun d _ => post d } := by
    have hRl : (l.drop k).length = l.length - k := List.length_drop
    have hcR : ∀ c ∈ l.drop k, c < 128 := fun c m => hc c (List.mem_of_mem_drop m)
    have hn := rowN_le (l.drop k)
    have hcut := cut_row l k (rowN (l.drop k))
    have hcut4 : (l.drop k).take (k + 4 - k) = (l.drop k).take 4 := by rw [show k + 4 - k = 4 by omega]
    have hRn : ∀ x : Nat, (k : Int) + (x : Int) = ((k + x : Nat) : Int) := fun x => rfl
    generalize hRe : l.drop k = R at *
    generalize hnv : rowN R = n at *
    unfold readR at q
    rw [hnv] at q
    refine ssw_cons ?_
    walk_at "dl"
    refine ⟨by rw [S_len]; omega, ?_⟩
    rw [show (k : Int) + 4 = ((k + 4 : Nat) : Int) from rfl, S_cutN, hcut]
    have hbl : ((R.take n).drop 4).length = n - 4 := by rw [List.length_drop, List.length_take]; omega
    have hbc : ∀ c ∈ (R.take n).drop 4, c < 128 := fun c m => hcR c (List.mem_of_mem_take (List.mem_of_mem_drop m))
    generalize hbv : (R.take n).drop 4 = b at *
    walk_at "dl"
    rw [S_len]
    refine ⟨by omega, ?_⟩
    walk_at "dl"
    refine ⟨fun h => ?_, fun h => ?_⟩
    · have h := of_decide_eq_true h
      rw [if_pos (by omega)] at q
      walk_at "dl"
      exact q
    have h := of_decide_eq_false h
    rw [if_neg (by omega)] at q
    walk_at "dl"
    rw [S_len]
    refine ⟨by omega, ?_⟩
    walk_at "dl"
    refine ⟨fun h => ?_, fun h => ?_⟩
    · have h := of_decide_eq_true h
      rw [if_pos (.inl (by omega))] at q
      walk_at "dl"
      exact q
    have hb0 := of_decide_eq_false h
    walk_at "dl"
    refine ⟨by rw [S_len]; omega, ?_⟩
    rw [show (k : Int) + 4 = ((k + 4 : Nat) : Int) from rfl, S_cutN, hRe, hcut4]
    walk_at "dl"
    refine ⟨b, rfl, by omega, ?_⟩
    walk_at "dl"
    rw [S_dec]
    refine ⟨fun h => ?_, fun h => ?_⟩
    · rw [if_pos (.inr (by simpa using h))] at q
      walk_at "dl"
      exact q
    rw [if_neg (by
      rintro (z | z)
      · omega
      · exact z (by simpa using h))] at q
    cases b with
    | nil => exact absurd rfl hb0
    | cons c fs =>
      have hB : readB (c :: fs) = if c = 43 then (unesc fs).map .add else if c = 45 ∧ FigOk fs ∧ ¬ (1 < fs.length ∧ fs.headD 0 = 48) then some (.drop (NumText.digitsVal fs)) else none := rfl
      rw [hB] at q
      have hfl : fs.length + 1 = n - 4 := hbl
      have hfc : ∀ c ∈ fs, c < 128 := fun c m => hbc c (List.mem_cons_of_mem _ m)
      walk_at "dl"
      refine ⟨by rw [S_len]; simp only [List.length_cons]; omega, c, S_at (l := c :: fs) (i := 0) rfl, ?_⟩
      walk_at "dl"
      rw [sgnL lPl]
      refine ⟨fun h => ?_, fun h => ?_⟩
      · have h := of_decide_eq_true h
        rw [if_pos h] at q
        walk_at "dl"
        refine ⟨by rw [S_len]; simp only [List.length_cons]; omega, ?_⟩
        rw [show (1 : Int) = ((1 : Nat) : Int) from rfl, S_cutD, show (c :: fs).drop 1 = fs from rfl]
        walk_at "dl"
        refine ⟨fs, rfl, by omega, hfc, ?_⟩
        cases hun : unesc fs with
        | none =>
          rw [hun] at q
          dsimp only [optD]
          walk_at "dl"
          exact q
        | some g =>
          rw [hun] at q
          dsimp only [optD]
          walk_at "dl"
          exact q
      · have h43 := of_decide_eq_false h
        rw [if_neg h43] at q
        walk_at "dl"
        refine ⟨by rw [S_len]; simp only [List.length_cons]; omega, ?_⟩
        rw [show (1 : Int) = ((1 : Nat) : Int) from rfl, S_cutD, show (c :: fs).drop 1 = fs from rfl]
        walk_at "dl"
        refine ⟨by rw [S_len]; simp only [List.length_cons]; omega, c, S_at (l := c :: fs) (i := 0) rfl, ?_⟩
        walk_at "dl"
        rw [sgnL lMi]
        refine ⟨fun h => ?_, fun h => ?_⟩
        · rw [if_neg (fun z => by simp [z.1] at h)] at q
          walk_at "dl"
          exact q
        have h45 : c = 45 := by simpa using h
        walk_at "dl"
        rw [S_len]
        refine ⟨by omega, ?_⟩
        walk_at "dl"
        refine ⟨fun h1 => ?_, fun h1 => ?_⟩
        rotate_left
        · rw [if_neg (fun z => by have := of_decide_eq_false h1; have := z.2.1.1.1; omega)] at q
          walk_at "dl"
          exact q
        have h1 := of_decide_eq_true h1
        walk_at "dl"
        refine ⟨fun h2 => ?_, fun h2 => ?_⟩
        · have h2 : ¬ (fs.length : Int) ≤ 4 := by simpa using h2
          rw [if_neg (fun z => by have := z.2.1.1.2; omega)] at q
          walk_at "dl"
          exact q
        have h2 : (fs.length : Int) ≤ 4 := by simpa using h2
        walk_at "dl"
        refine EN.ew (en_lcM [("sign", 6)] rfl nd (blkOk_of sc_read_record rfl rfl (by decide +kernel)) ?_)
        walk_at "dl"
        refine ⟨by rw [S_len]; omega, ?_⟩
        rw [S_sgn]
        refine ⟨noOw1 rfl, Nat, fs, fun c => .str (S [c]), fun _ => true, fun c => .bool (decide (48 ≤ c ∧ c ≤ 57)), rfl, fun z hz => ?_, ?_⟩
        · walk_at "dl"
          refine ⟨rfl, rfl, fun _ => ?_⟩
          walk_at "dl"
          refine ⟨rfl, congrArg PyData.bool ?_⟩
          rw [lFigs]
          exact (S_in _ z).trans (figs_in z)
        show AW _ [] _ _
        walk_at "dl"
        have hall : ((fs.map fun c => decide (48 ≤ c ∧ c ≤ 57)).all fun b => b) = decide (∀ c ∈ fs, 48 ≤ c ∧ c ≤ 57) := by
          rw [List.all_map, Bool.eq_iff_iff, List.all_eq_true, decide_eq_true_eq]
          exact ⟨fun h c m => of_decide_eq_true (h c m), fun h c m => decide_eq_true (h c m)⟩
        refine ⟨fs.map fun c => decide (48 ≤ c ∧ c ≤ 57), by rw [filter_true, List.map_map]; rfl, ?_⟩
        rw [hall]
        walk_at "dl"
        refine ⟨fun h3 => ?_, fun h3 => ?_⟩
        · have h3 : ¬ ∀ c ∈ fs, 48 ≤ c ∧ c ≤ 57 := fun z => by rw [decide_eq_true z] at h3; cases h3
          rw [if_neg (fun z => h3 z.2.1.2)] at q
          walk_at "dl"
          exact q
        have h3 : ∀ c ∈ fs, 48 ≤ c ∧ c ≤ 57 := by
          by_cases z : ∀ c ∈ fs, 48 ≤ c ∧ c ≤ 57
          · exact z
          · rw [decide_eq_false z] at h3
            cases h3
        have hfig : FigOk fs := ⟨by omega, h3⟩
        have last : ¬ (1 < fs.length ∧ fs.headD 0 = 48) → SsW (DCx P w K mg base ["text", "at", "end", "body", "told", "figures", "sign"] "read_record" (defScope s_read_record) f cdv A outer s H E) [] ((defBody s_read_record).drop 8) [.pd (.str (S l)), .pd (.int (k : Nat)), .pd (.int ((k + n : Nat) : Int)), .pd (.str (S (c :: fs))), .un, .pd (.str (S fs)), .un] { nx := fun _ => post .none, rt := fun d _ => post d } := fun hh => by
          rw [if_pos ⟨h45, hfig, hh⟩] at q
          refine ssw_cons ?_
          walk_at "dl"
          refine ⟨_, intText_digits (x := S fs) (fun c m => h3 c (by simpa [S] using m)) (by simpa [S] using (by rintro rfl; simp at h1 : fs ≠ [])) (by rw [S_len]; omega), by rw [S_len]; omega, ?_⟩
          walk_at "dl"
          exact q
        walk_at "dl"
        rw [S_len]
        refine ⟨by omega, ?_⟩
        walk_at "dl"
        refine ⟨fun h4 => ?_, fun h4 => ?_⟩
        · have h4 := of_decide_eq_true h4
          cases fs with
          | nil => simp at h4
          | cons d r =>
            walk_at "dl"
            refine ⟨by rw [S_len]; omega, d, S_at (l := d :: r) (i := 0) rfl, ?_⟩
            walk_at "dl"
            rw [sgnL l00]
            refine ⟨fun h5 => ?_, fun h5 => ?_⟩
            · have h5 := of_decide_eq_true h5
              rw [if_neg (fun z => z.2.2 ⟨by omega, h5⟩)] at q
              walk_at "dl"
              exact q
            · exact ssw_nil (last fun z => of_decide_eq_false h5 z.2)
        · have h4 := of_decide_eq_false h4
          exact ⟨fun z => Bool.noConfusion z, fun _ => ssw_nil (last fun z => h4 (by omega))⟩
  walk_at "dl"
  refine sw_while PassesOwn.never (fun m ρ => ∃ e, (k ≤ e ∧ e ≤ l.length ∧ ∀ j, k ≤ j → j < e → l[j]? ≠ some 10) ∧ m = l.length - e ∧ ρ = [.pd (.str (S l)), .pd (.int (k : Nat)), .pd (.int (e : Nat)), .un, .un, .un, .un]) (l.length - k) ⟨k, ⟨Nat.le_refl _, hk, fun j h1 h2 => absurd h1 (by omega)⟩, rfl, rfl⟩ ?_
  rintro m ρ ⟨e, ⟨he, he2, hj⟩, rfl, rfl⟩
  walk_at "dl"
  rw [S_len]
  refine ⟨by omega, ?_⟩
  walk_at "dl"
  refine ⟨fun h => ?_, fun h => ?_⟩
  · have h := of_decide_eq_true h
    have hlt : e < l.length := by omega
    walk_at "dl"
    refine ⟨by rw [S_len]; omega, l[e], S_at (List.getElem?_eq_getElem hlt), ?_⟩
    walk_at "dl"
    rw [sgnL lNl]
    refine ⟨fun h => ?_, fun h => ?_⟩
    · have h : ¬ l[e] = 10 := by simpa using h
      walk_at "dl"
      refine ⟨l.length - (e + 1), by omega, e + 1, ⟨by omega, by omega, fun j h1 h2 => ?_⟩, rfl, rfl⟩
      by_cases z : j = e
      · subst z
        rw [List.getElem?_eq_getElem hlt]
        exact fun y => h (Option.some.inj y)
      · exact hj j h1 (by omega)
    · have h : l[e] = 10 := by simpa using h
      have := row_len l k e he hj (.inl (by rw [List.getElem?_eq_getElem hlt, h])) hk
      subst this
      exact tail
  · have h := of_decide_eq_false h
    have := row_len l k e he hj (.inr (by omega)) hk
    subst this
    exact ⟨fun z => Bool.noConfusion z, fun _ => tail⟩
end
section
variable {P : Program} {w : World} {K : PySem.W.Frag} {mg : Str → Option Value} {base : Heap} {n : Nat}
def w_Lpick : GAB := fun bs ds P => ∃ d, ds = [d] ∧ BoxOk bs ∧ ((∃ l : List Nat, d = .str (S l) ∧ (0 < l.length ∧ l.length ≤ 1000) ∧ ∀ c bs', c ∈ l → BoxOk bs' → P (.str (S [c])) bs') ∨ ∃ xs, d = .list xs ∧ (0 < xs.length ∧ xs.length ≤ 1000) ∧ ∀ x bs', x ∈ xs → BoxOk bs' → P x bs')
theorem ok_Lpick {f : Addr} {fd : FuncData} (F : Fun K "_law_pick" "_law_pick" s_Lpick f fd) (m_int : mg "int" = none) (m_len : mg "len" = none) (c_Ldraw : CalB P w K mg base n "_law_draw" w_Ldraw) : FnG P w K mg base (n + 1) f fd ["box", "row"] (SpB K w_Lpick) := by
  refine fg_box F sc_Lpick (fun bs ds post ⟨d, e, _⟩ => by rw [e]; rfl) fun cdv A outer s H E bs ds post hr hgd ⟨d, e, hb, q⟩ => ?_
  subst e
  have nd := sc_Lpick.nd
  refine ssw_cons ?_
  show SW _ _ _ [.ow (.lst bs), .pd d] _
  rcases q with ⟨l, rfl, ⟨h0, h1⟩, q⟩ | ⟨xs, rfl, ⟨h0, h1⟩, q⟩
  · walk_at "dl"
    refine ⟨_, rfl, _, rfl, by decide, hb, fun r bs hr hb => ?_⟩
    walk_at "dl"
    rw [S_len]
    refine ⟨by omega, ?_⟩
    walk_at "dl"
    refine ⟨by omega, ?_⟩
    obtain ⟨j, e, hj⟩ := mod_fits (z := (r : Int)) (m := (l.length : Int)) (by omega)
    rw [e]
    have hj : j < l.length := by omega
    walk_at "dl"
    refine ⟨by rw [S_len]; omega, l[j], S_at (List.getElem?_eq_getElem hj), ?_⟩
    exact ⟨_, rfl, q _ _ (List.getElem_mem hj) hb⟩
  · walk_at "dl"
    refine ⟨_, rfl, _, rfl, by decide, hb, fun r bs hr hb => ?_⟩
    walk_at "dl"
    refine ⟨by omega, ?_⟩
    obtain ⟨j, e, hj⟩ := mod_fits (z := (r : Int)) (m := (xs.length : Int)) (by omega)
    rw [e]
    have hj : j < xs.length := by omega
    walk_at "dl"
    refine ⟨xs[j], atI_nat (List.getElem?_eq_getElem hj), ?_⟩
    exact ⟨_, rfl, q _ _ (List.getElem_mem hj) hb⟩
def w_Lescaped : GA := w_escaped
theorem ok_Lescaped {f : Addr} {fd : FuncData} (F : Fun K "_law_escaped" "_law_escaped" s_Lescaped f fd) : FnG P w K mg base (n + 1) f fd ["text"] (SpP K w_Lescaped) := by
  refine fg_pure F sc_Lescaped (fun ds post ⟨l, e, _⟩ => by rw [e]; rfl) fun cdv A outer s H E ds post hr hgd ⟨l, e, hl, q⟩ => ?_
  subst e
  have nd := sc_Lescaped.nd
  have hu := hu_room hr
  refine ssw_cons ?_
  show SW _ _ _ [.pd (.str (S l)), .un, .un] _
  walk_at "dl"
  refine sw_for (ts := [2]) PassesOwn.never rfl (by decide) ?_
  walk_at "dl"
  refine ⟨by rw [S_len]; omega, ?_⟩
  rw [S_sgn]
  refine mpJ (fun i ρ => ∃ a, (esc (l.take i)).length ≤ 2 * l.length ∧ ρ = [.pd (.str (S l)), .pd (.str (S (esc (l.take i)))), a]) ⟨_, Nat.zero_le _, by rw [l0]; rfl⟩ ?_ ?_
  · rintro i c ρ hc ⟨a, hel, rfl⟩
    have e : l.take (i + 1) = l.take i ++ [c] := by rw [List.take_add_one, hc]; rfl
    have hel2 : (esc (l.take i) ++ esc1 c).length ≤ 2 * l.length := by
      rw [← esc_snoc, ← e]
      have h1 := esc_len (l.take (i + 1))
      have h2 : (l.take (i + 1)).length ≤ l.length := by rw [List.length_take]; omega
      omega
    walk_at "dl"
    rw [sgnL lBs]
    refine ⟨fun h => ?_, fun h => ?_⟩
    · have h := of_decide_eq_true h
      subst h
      walk_at "dl"
      refine ⟨by rw [lBb, S_len, S_len, ← List.length_append]; exact Nat.le_trans hel2 (by omega), ?_⟩
      rw [lBb, S_app]
      walk_at "dl"
      rw [e, esc_snoc]
      exact ⟨_, hel2, rfl⟩
    · have h92 := of_decide_eq_false h
      walk_at "dl"
      rw [sgnL lNl]
      refine ⟨fun h => ?_, fun h => ?_⟩
      · have h := of_decide_eq_true h
        subst h
        walk_at "dl"
        refine ⟨by rw [lBn, S_len, S_len, ← List.length_append]; exact Nat.le_trans hel2 (by omega), ?_⟩
        rw [lBn, S_app]
        walk_at "dl"
        rw [e, esc_snoc]
        exact ⟨_, hel2, rfl⟩
      · have h10 := of_decide_eq_false h
        have e1 : esc1 c = [c] := by unfold esc1; rw [if_neg h92, if_neg h10]
        rw [e1] at hel2
        walk_at "dl"
        refine ⟨by rw [S_len, S_len, ← List.length_append]; exact Nat.le_trans hel2 (by omega), ?_⟩
        rw [S_app]
        walk_at "dl"
        rw [e, esc_snoc, e1]
        exact ⟨_, hel2, rfl⟩
  · rintro ρ ⟨a, _, rfl⟩
    rw [List.take_length]
    walk_at "dl"
    exact q
def w_Lsealed : GA := fun ds P => ∃ b : List Nat, ds = [.str (S b)] ∧ b.length ≤ 1000 ∧ P (.str (S (sealT b)))
theorem ok_Lsealed {f : Addr} {fd : FuncData} (F : Fun K "_law_sealed" "_law_sealed" s_Lsealed f fd) (c_Lcheck : CalP P w K mg base n "_law_check" w_Lcheck) : FnG P w K mg base (n + 1) f fd ["body"] (SpP K w_Lsealed) := by
  refine fg_pure F sc_Lsealed (fun ds post ⟨l, e, _⟩ => by rw [e]; rfl) fun cdv A outer s H E ds post hr hgd ⟨b, e, hb, q⟩ => ?_
  subst e
  have nd := sc_Lsealed.nd
  refine ssw_cons ?_
  show SW _ _ _ [.pd (.str (S b))] _
  walk_at "dl"
  refine ⟨b, rfl, by omega, ?_⟩
  walk_at "dl"
  refine ⟨by rw [S_len, S_len, chkT_len]; omega, ?_⟩
  rw [S_app]
  walk_at "dl"
  refine ⟨?_, ?_⟩
  · rw [lNl, S_len, S_len, List.length_append, chkT_len]
    simp
    omega
  rw [lNl, S_app]
  exact q
end
section
variable {P : Program} {w : World} {K : PySem.W.Frag} {mg : Str → Option Value} {base : Heap} {n : Nat}
/-- the text of a deed behind its check -/
def w_Lrecord : GA := w_record
theorem ok_Lrecord {f : Addr} {fd : FuncData} (F : Fun K "_law_record" "_law_record" s_Lrecord f fd) (m_str : mg "str" = none) (c_Lsealed : CalP P w K mg base n "_law_sealed" w_Lsealed) (c_Lescaped : CalP P w K mg base n "_law_escaped" w_Lescaped) : FnG P w K mg base (n + 1) f fd ["deed"] (SpP K w_Lrecord) := by
  refine fg_pure F sc_Lrecord (fun ds post ⟨l, e, _⟩ => by rw [e]; rfl) fun cdv A outer s H E ds post hr hgd ⟨d, e, hd, q⟩ => ?_
  subst e
  have nd := sc_Lrecord.nd
  have hu := hu_room hr
  have hb := body_len hd
  refine ssw_cons ?_
  show SW _ _ _ [.pd d.data] _
  cases d with
  | add l =>
    have hl := esc_len l
    have h1 := hd.1
    show SW _ _ _ [.pd (.tuple [.str "add", .str (S l)])] _
    walk_at "dl"
    refine ⟨_, rfl, ?_⟩
    walk_at "dl"
    rw [lAdd]
    walk_at "dl"
    refine ⟨_, rfl, ?_⟩
    walk_at "dl"
    refine ⟨l, rfl, by omega, ?_⟩
    walk_at "dl"
    refine ⟨by rw [lPl, S_len, S_len]; simp; omega, ?_⟩
    rw [lPl, S_app]
    walk_at "dl"
    exact ⟨43 :: esc l, rfl, by simp; omega, q⟩
  | drop n =>
    show SW _ _ _ [.pd (.tuple [.str "drop", .int n])] _
    have hn : n < 10000 := by
      simp only [DeedOk, List.mem_cons, List.not_mem_nil, or_false] at hd
      omega
    have hl := dig_le hn
    walk_at "dl"
    refine ⟨_, rfl, ?_⟩
    walk_at "dl"
    rw [lDrop]
    walk_at "dl"
    refine ⟨_, rfl, ?_⟩
    walk_at "dl"
    refine ⟨log_ok (Nat.lt_trans hn (by decide)), ?_⟩
    rw [dig_str]
    walk_at "dl"
    refine ⟨by rw [lMi, S_len, S_len]; simp; omega, ?_⟩
    rw [lMi, S_app]
    walk_at "dl"
    exact ⟨45 :: dig n, rfl, by simp; omega, q⟩
def w_Lplain : GA := w_plain
theorem ok_Lplain {f : Addr} {fd : FuncData} (F : Fun K "_law_plain" "_law_plain" s_Lplain f fd) (c_Lescaped : CalP P w K mg base n "_law_escaped" w_Lescaped) : FnG P w K mg base (n + 1) f fd ["text"] (SpP K w_Lplain) := by
  refine fg_pure F sc_Lplain (fun ds post ⟨l, e, _⟩ => by rw [e]; rfl) fun cdv A outer s H E ds post hr hgd ⟨l, e, hl, hc, q⟩ => ?_
  subst e
  have nd := sc_Lplain.nd
  have hu := hu_room hr
  refine ssw_cons ?_
  show SW _ _ _ [.pd (.str (S l)), .un, .un, .un] _
  walk_at "dl"
  refine sw_for (ts := [3]) PassesOwn.never rfl (by decide) ?_
  walk_at "dl"
  refine ⟨by rw [S_len]; omega, ?_⟩
  rw [S_sgn]
  have hfl : ∀ i, ((l.take i).foldl scan1 ([], false)).1.length ≤ l.length := fun i => by
    have h1 := scan_len (l.take i) ([], false)
    have h2 : (l.take i).length ≤ l.length := by rw [List.length_take]; omega
    simp only [List.length_nil] at h1
    omega
  refine mpJ (fun i ρ => ∃ a, ρ = [.pd (.str (S l)), .pd (.str (S ((l.take i).foldl scan1 ([], false)).1)), .pd (.bool ((l.take i).foldl scan1 ([], false)).2), a]) ⟨_, by rw [l0]; rfl⟩ ?_ ?_
  · rintro i c ρ hcc ⟨a, rfl⟩
    have hst := fold_take (f := scan1) (b := ([], false)) hcc
    have hf0 := hfl i
    generalize (l.take i).foldl scan1 ([], false) = st at *
    obtain ⟨g, m⟩ := st
    dsimp only at hf0
    walk_at "dl"
    refine if_join (fun ρ' => ρ' = [.pd (.str (S l)), .pd (.str (S (if m = true then g ++ [if c = 110 then 10 else c] else if c = 92 then g else g ++ [c]))), .pd (.bool m), .pd (.str (S [c]))]) (fun h => ?_) (fun h => ?_) ?_
    · subst h
      walk_at "dl"
      rw [sgnL lN]
      refine ⟨fun h => ?_, fun h => ?_⟩
      · have h := of_decide_eq_true h
        subst h
        walk_at "dl"
        refine ⟨by rw [lNl, S_len, S_len]; simp; omega, ?_⟩
        rw [lNl, S_app]
        walk_at "dl"
        rfl
      · have h := of_decide_eq_false h
        walk_at "dl"
        refine ⟨by rw [S_len, S_len]; simp; omega, ?_⟩
        rw [S_app, if_neg h]
        walk_at "dl"
        rfl
    · subst h
      walk_at "dl"
      rw [sgnL lBs]
      refine ⟨fun h => ?_, fun h => ?_⟩
      · have h : ¬ c = 92 := by simpa using h
        walk_at "dl"
        refine ⟨by rw [S_len, S_len]; simp; omega, ?_⟩
        rw [S_app, if_neg h]
        walk_at "dl"
        rfl
      · have h : c = 92 := by simpa using h
        rw [if_pos h]
        walk_at "dl"
        rfl
    · rintro ρ rfl
      walk_at "dl"
      rw [sgnL lBs]
      refine ⟨fun h => ?_, fun h => ?_⟩
      · walk_at "dl"
        rw [hst]
        unfold scan1
        dsimp only
        rw [h]
        exact ⟨_, rfl⟩
      · walk_at "dl"
        rw [hst]
        unfold scan1
        dsimp only
        rw [h]
        exact ⟨_, rfl⟩
  · rintro ρ ⟨a, rfl⟩
    rw [List.take_length]
    have hf0 := hfl l.length
    rw [List.take_length] at hf0
    have hsc := scan_unesc l
    rw [← hsc] at q
    show SsW _ _ _ [.pd (.str (S l)), .pd (.str (S (scan l).1)), .pd (.bool (scan l).2), a] _
    have hf0 : (scan l).1.length ≤ l.length := hf0
    generalize scan l = st at *
    obtain ⟨g, m⟩ := st
    dsimp only at hf0 q ⊢
    walk_at "dl"
    refine ⟨fun h => ?_, fun h => ?_⟩
    · have hm : m = false := by simpa using h
      subst hm
      walk_at "dl"
      refine ⟨g, rfl, by omega, ?_⟩
      walk_at "dl"
      rw [S_dec]
      refine ⟨fun h => ?_, fun h => ?_⟩
      · have h := of_decide_eq_true h
        rw [if_pos ⟨rfl, h⟩] at q
        walk_at "dl"
        exact q
      · have h := of_decide_eq_false h
        rw [if_neg (fun z => h z.2)] at q
        walk_at "dl"
        exact q
    · have hm : m = true := by simpa using h
      subst hm
      rw [if_neg (fun z => Bool.noConfusion z.1)] at q
      walk_at "dl"
      exact q
end
section
variable {P : Program} {w : World} {K : PySem.W.Frag} {mg : Str → Option Value} {base : Heap} {n : Nat}
def dN (ns : List Nat) : List PyData := ns.map fun (k : Nat) => PyData.int (k : Int)
theorem dN_lay : ∀ ns : List Nat, PyData.canLayAll0 (dN ns) = true
  | [] => rfl
  | n :: ns => by
    show (PyData.canLay0 (.int (n : Int)) && PyData.canLayAll0 (dN ns)) = true
    rw [dN_lay ns]
    rfl
theorem eqv_lnil (xs : List PyData) : PyData.eqv (.list xs) (.list []) = xs.isEmpty := by
  cases xs <;> simp [PyData.eqv, PyData.eqvAll]
def endsN (r : List Nat) : List Nat := (List.range r.length).filter fun i => decide (r[i]? = some 10)
theorem ends_row (r : List Nat) : (endsN r = [] ∧ rowN r = r.length) ∨ ∃ rest, endsN r = rowN r :: rest ∧ rowN r < r.length := by
  cases h : endsN r with
  | nil =>
    refine .inl ⟨rfl, rowN_of _ _ (fun k hk e => ?_) (.inl rfl)⟩
    have : k ∈ endsN r := List.mem_filter.mpr ⟨List.mem_range.mpr hk, decide_eq_true e⟩
    rw [h] at this
    cases this
  | cons i rest =>
    have hh : (endsN r).head? = some i := by rw [h]; rfl
    unfold endsN at hh
    rw [List.head?_filter, List.find?_range_eq_some] at hh
    obtain ⟨h1, h2, h3⟩ := hh
    have e : rowN r = i := rowN_of _ _ (fun k hk z => by have := h3 k hk; rw [decide_eq_true z] at this; cases this) (.inr (of_decide_eq_true h1))
    exact .inr ⟨rest, by rw [e], by rw [e]; exact List.mem_range.mp h2⟩
theorem fig_at {i c : Nat} (h : [48, 49, 50, 51, 52, 53, 54, 55, 56, 57][i]? = some c) : c = 48 + i := by
  rcases i with _ | _ | _ | _ | _ | _ | _ | _ | _ | _ | i <;> simp at h <;> omega
theorem pm_in (c : Nat) : (!(Builtin.Str.occurrences (Str.ofString "+-") (⟨#[c]⟩ : Str) 0 (Str.ofString "+-").length 1).isEmpty) = decide (c = 43 ∨ c = 45) := by
  rw [show Str.ofString "+-" = S [43, 45] by decide +kernel]
  refine (S_in [43, 45] c).trans (decide_eq_decide.mpr ?_)
  simp
theorem cT3 (l : List Nat) : cutS (S l) none (some 3) = S (l.take 3) := S_cutT l 3
theorem cT4 (l : List Nat) : cutS (S l) none (some 4) = S (l.take 4) := S_cutT l 4
theorem cD1 (l : List Nat) : cutS (S l) (some 1) none = S (l.drop 1) := S_cutD l 1
theorem cD4 (l : List Nat) : cutS (S l) (some 4) none = S (l.drop 4) := S_cutD l 4
theorem cD5 (l : List Nat) : cutS (S l) (some 5) none = S (l.drop 5) := S_cutD l 5
def w_Lread : GA := w_read_record
theorem ok_Lread {f : Addr} {fd : FuncData} (F : Fun K "_law_read" "_law_read" s_Lread f fd) (m_range : mg "range" = none) (m_len : mg "len" = none) (c_Lplain : CalP P w K mg base n "_law_plain" w_Lplain) (c_Lcheck : CalP P w K mg base n "_law_check" w_Lcheck) : FnG P w K mg base (n + 1) f fd ["text", "at"] (SpP K w_Lread) := by
  refine fg_pure F sc_Lread (fun ds post ⟨l, k, e, _⟩ => by rw [e]; rfl) fun cdv A outer s H E ds post hr hgd ⟨l, k, e, hk, hl, hc, q⟩ => ?_
  subst e
  have nd := sc_Lread.nd
  have hu := hu_room hr
  refine ssw_cons ?_
  show SW _ _ _ [.pd (.str (S l)), .pd (.int (k : Nat)), .un, .un, .un, .un, .un, .un, .un, .un] _
  refine sw_lcM 2 [("k", 9)] rfl nd rfl rfl (sw_true rfl rfl rfl (by decide +kernel)) (blkOk_of sc_Lread rfl rfl (by decide +kernel)) (by decide) (Nat.le_of_ble_eq_true rfl) ?_
  walk_at "dl"
  rw [S_len]
  refine ⟨by omega, ?_⟩
  walk_at "dl"
  refine ⟨(k : Int), (l.length : Int), rfl, by omega, ?_⟩
  rw [show ((l.length : Int) - (k : Int)).toNat = (l.drop k).length by rw [List.length_drop]; omega]
  refine ⟨noOw1 rfl, Nat, List.range (l.drop k).length, fun (i : Nat) => .int ((k : Int) + (i : Int)), fun i => decide ((l.drop k)[i]? = some 10), fun i => .int ((k + i : Nat) : Int), rfl, fun z hz => ?_, ?_⟩
  · have hz := List.mem_range.mp hz
    rw [List.length_drop] at hz
    have hlt : k + z < l.length := by omega
    walk_at "dl"
    refine ⟨by rw [S_len]; omega, l[k + z], S_at (i := k + z) (List.getElem?_eq_getElem hlt), ?_⟩
    walk_at "dl"
    rw [sgnL lNl]
    refine ⟨rfl, ?_, fun _ => ?_⟩
    · rw [List.getElem?_drop, List.getElem?_eq_getElem hlt]
      simp
    · walk_at "dl"
      exact ⟨rfl, rfl⟩
  show SsW _ _ _ [.pd (.str (S l)), .pd (.int (k : Nat)), .pd (.list (((endsN (l.drop k)).map fun i => PyData.int ((k + i : Nat) : Int)))), .un, .un, .un, .un, .un, .un, .un] _
  have hRl : (l.drop k).length = l.length - k := List.length_drop
  have hcR : ∀ c ∈ l.drop k, c < 128 := fun c m => hc c (List.mem_of_mem_drop m)
  have hn := rowN_le (l.drop k)
  have hend := ends_row (l.drop k)
  have hcutR : (l.drop k).take (k + rowN (l.drop k) - k) = (l.drop k).take (rowN (l.drop k)) := by rw [show k + rowN (l.drop k) - k = rowN (l.drop k) by omega]
  have hlay : ∀ ns : List Nat, PyData.canLayAll0 (ns.map fun i => PyData.int ((k + i : Nat) : Int)) = true := fun ns => by
    have := dN_lay (ns.map fun i => k + i)
    unfold dN at this
    rw [List.map_map] at this
    exact this
  generalize hRe : l.drop k = R at *
  generalize hnv : rowN R = n at *
  unfold readR at q
  rw [hnv] at q
  generalize hev : endsN R = ev at *
  walk_at "dl"
  refine ⟨by simpa only [PyData.canLay0] using hlay ev, rfl, Nat.le_trans (Nat.min_le_right _ _) (by decide), ?_⟩
  rw [eqv_lnil]
  walk_at "dl"
  rcases hend with ⟨rfl, h1⟩ | ⟨rest, rfl, h1⟩
  · rw [if_pos h1] at q
    refine ⟨fun _ => ?_, fun h => by cases h⟩
    walk_at "dl"
    exact q
  refine ⟨fun h => by (cases h), fun _ => ?_⟩
  rw [if_neg (by omega)] at q
  walk_at "dl"
  have hat0 : atI ((n :: rest).map fun i => PyData.int ((k + i : Nat) : Int)) 0 = some (.int ((k + n : Nat) : Int)) := atI_nat (j := 0) rfl
  refine ⟨.int ((k + n : Nat) : Int), hat0, ?_⟩
  walk_at "dl"
  refine ⟨by rw [S_len]; omega, ?_⟩
  rw [S_cutN, hRe, hcutR]
  have hrl : (R.take n).length = n := by rw [List.length_take]; omega
  walk_at "dl"
  rw [S_len, hrl]
  refine ⟨by omega, ?_⟩
  have hbl : ((R.take n).drop 4).length = n - 4 := by rw [List.length_drop, hrl]
  walk_at "dl"
  refine ⟨fun h => ?_, fun h => ?_⟩
  · have h := of_decide_eq_true h
    rw [if_pos (.inl (by omega))] at q
    walk_at "dl"
    exact q
  have h5 := of_decide_eq_false h
  have h5 : 5 ≤ n := by omega
  have ht4 : (R.take n).take 4 = R.take 4 := by rw [List.take_take, Nat.min_eq_left (by omega)]
  have hd5 : (R.take n).drop 5 = ((R.take n).drop 4).tail := by rw [List.tail_drop]
  have hg4 : (R.take n)[4]? = ((R.take n).drop 4)[0]? := by rw [List.getElem?_drop]
  have hbc : ∀ c ∈ (R.take n).drop 4, c < 128 := fun c m => hcR c (List.mem_of_mem_take (List.mem_of_mem_drop m))
  walk_at "dl"
  refine ⟨by rw [S_len]; omega, ?_⟩
  rw [cT4, ht4]
  walk_at "dl"
  refine ⟨by rw [S_len]; omega, ?_⟩
  rw [cD4]
  generalize hbv : (R.take n).drop 4 = b at *
  walk_at "dl"
  refine ⟨b, rfl, by omega, ?_⟩
  walk_at "dl"
  rw [S_dec]
  refine ⟨fun h => ?_, fun h => ?_⟩
  · rw [if_pos (.inr (by simpa using h))] at q
    walk_at "dl"
    exact q
  rw [if_neg (by
    rintro (z | z)
    · omega
    · exact z (by simpa using h))] at q
  cases b with
  | nil =>
    simp at hbl
    omega
  | cons c fs =>
    have hB : readB (c :: fs) = if c = 43 then (unesc fs).map .add else if c = 45 ∧ FigOk fs ∧ ¬ (1 < fs.length ∧ fs.headD 0 = 48) then some (.drop (NumText.digitsVal fs)) else none := rfl
    rw [hB] at q
    have hfl : fs.length + 1 = n - 4 := hbl
    have hfc : ∀ c ∈ fs, c < 128 := fun c m => hbc c (List.mem_cons_of_mem _ m)
    have hg4 : (R.take n)[4]? = some c := hg4
    have hd5 : (R.take n).drop 5 = fs := hd5
    walk_at "dl"
    refine ⟨by rw [S_len]; omega, c, S_at (i := 4) hg4, ?_⟩
    walk_at "dl"
    rw [pm_in]
    refine ⟨fun h => ?_, fun h => ?_⟩
    · have h : ¬ (c = 43 ∨ c = 45) := by simpa using h
      rw [if_neg (fun z => h (.inl z)), if_neg (fun z => h (.inr z.1))] at q
      walk_at "dl"
      exact q
    have h4345 : c = 43 ∨ c = 45 := by
      by_cases z : c = 43 ∨ c = 45
      · exact z
      · rw [decide_eq_false z] at h
        cases h
    walk_at "dl"
    refine ⟨by rw [S_len]; omega, c, S_at (i := 4) hg4, ?_⟩
    walk_at "dl"
    rw [sgnL lPl]
    refine ⟨fun h => ?_, fun h => ?_⟩
    · have h := of_decide_eq_true h
      rw [if_pos h] at q
      walk_at "dl"
      refine ⟨by rw [S_len]; omega, ?_⟩
      rw [cD5, hd5]
      walk_at "dl"
      refine ⟨fs, rfl, by omega, hfc, ?_⟩
      cases hun : unesc fs with
      | none =>
        rw [hun] at q
        dsimp only [optD]
        walk_at "dl"
        exact q
      | some g =>
        rw [hun] at q
        dsimp only [optD]
        walk_at "dl"
        exact ⟨_, hat0, by walk_at "dl"; exact q⟩
    have h43 := of_decide_eq_false h
    have h45 : c = 45 := h4345.resolve_left h43
    rw [if_neg h43] at q
    walk_at "dl"
    refine ⟨by rw [S_len]; omega, ?_⟩
    rw [cD5, hd5]
    walk_at "dl"
    rw [S_len]
    refine ⟨by omega, ?_⟩
    walk_at "dl"
    have nofine : ¬ FigOk fs → SsW (DCx P w K mg base ["text", "at", "ends", "row", "told", "figures", "fine", "number", "sign", "k"] "_law_read" (defScope s_Lread) f cdv A outer s H E) [] ((defBody s_Lread).drop 7) [.pd (.str (S l)), .pd (.int (k : Nat)), .pd (.list (((n :: rest).map fun i => PyData.int ((k + i : Nat) : Int)))), .pd (.str (S (R.take n))), .un, .pd (.str (S fs)), .pd (.bool false), .un, .un, .un] { nx := fun _ => post .none, rt := fun d _ => post d } := fun hh => by
      rw [if_neg (fun z => hh z.2.1)] at q
      refine ssw_cons ?_
      walk_at "dl"
      exact q
    refine ⟨fun h1 => ?_, fun h1 => ?_⟩
    rotate_left
    · exact ⟨false, rfl, fun z => Bool.noConfusion z, fun _ => nofine fun z => by have := of_decide_eq_false h1; have := z.1.1; omega⟩
    have h1 := of_decide_eq_true h1
    walk_at "dl"
    refine ⟨fun h2 => ?_, fun h2 => ?_⟩
    rotate_left
    · exact nofine fun z => by have := of_decide_eq_false h2; have := z.1.2; omega
    have h2 := of_decide_eq_true h2
    walk_at "dl"
    refine EN.ew (en_lcM [("sign", 8)] rfl nd (blkOk_of sc_Lread rfl rfl (by decide +kernel)) ?_)
    walk_at "dl"
    refine ⟨by rw [S_len]; omega, ?_⟩
    rw [S_sgn]
    refine ⟨noOw1 rfl, Nat, fs, fun c => .str (S [c]), fun c => !decide (48 ≤ c ∧ c ≤ 57), fun c => .str (S [c]), rfl, fun z hz => ?_, ?_⟩
    · walk_at "dl"
      refine ⟨rfl, ?_, fun _ => ?_⟩
      · rw [lFigs]
        exact congrArg (! ·) ((S_in _ z).trans (figs_in z))
      walk_at "dl"
      exact ⟨rfl, rfl⟩
    show EW _ _ _ _
    have hfil : ((fs.filter fun c => !decide (48 ≤ c ∧ c ≤ 57)).map fun c => PyData.str (S [c])).isEmpty = decide (∀ c ∈ fs, 48 ≤ c ∧ c ≤ 57) := by
      rw [List.isEmpty_map, Bool.eq_iff_iff, List.isEmpty_iff, List.filter_eq_nil_iff, decide_eq_true_eq]
      exact ⟨fun h c m => by simpa using h c m, fun h c m => by simpa using h c m⟩
    walk_at "dl"
    refine ⟨?_, rfl, Nat.le_trans (Nat.min_le_right _ _) (by decide), ?_⟩
    · simp only [PyData.canLay0]
      refine all_lay fun x m => ?_
      obtain ⟨c, hc, rfl⟩ := List.mem_map.mp m
      simp only [PyData.canLay0]
      exact tx_ok fun d m => by rw [List.mem_singleton.mp m]; exact hfc c (List.mem_filter.mp hc).1
    rw [eqv_lnil, hfil]
    by_cases hff : ∀ c ∈ fs, 48 ≤ c ∧ c ≤ 57
    rotate_left
    · rw [decide_eq_false hff]
      exact nofine fun z => hff z.2
    rw [decide_eq_true hff]
    have hfig : FigOk fs := ⟨by omega, hff⟩
    have last : ¬ (1 < fs.length ∧ fs.headD 0 = 48) → SsW (DCx P w K mg base ["text", "at", "ends", "row", "told", "figures", "fine", "number", "sign", "k"] "_law_read" (defScope s_Lread) f cdv A outer s H E) [] ((defBody s_Lread).drop 8) [.pd (.str (S l)), .pd (.int (k : Nat)), .pd (.list (((n :: rest).map fun i => PyData.int ((k + i : Nat) : Int)))), .pd (.str (S (R.take n))), .un, .pd (.str (S fs)), .pd (.bool true), .un, .un, .un] { nx := fun _ => post .none, rt := fun d _ => post d } := fun hh => by
      rw [if_pos ⟨h45, hfig, hh⟩] at q
      refine ssw_cons ?_
      walk_at "dl"
      refine sw_for (ts := [8]) PassesOwn.never rfl (by decide) ?_
      walk_at "dl"
      refine ⟨by rw [S_len]; omega, ?_⟩
      rw [S_sgn]
      refine mpJ (fun i ρ => ∃ a, ρ = [.pd (.str (S l)), .pd (.int (k : Nat)), .pd (.list (((n :: rest).map fun i => PyData.int ((k + i : Nat) : Int)))), .pd (.str (S (R.take n))), .un, .pd (.str (S fs)), .pd (.bool true), .pd (.int ((NumText.digitsVal (fs.take i) : Nat) : Int)), a, .un]) ⟨_, rfl⟩ ?_ ?_
      · rintro i c ρ hcc ⟨a, rfl⟩
        have hm := hff c (List.mem_of_getElem? hcc)
        have hin : c ∈ [48, 49, 50, 51, 52, 53, 54, 55, 56, 57] := of_decide_eq_true ((figs_in c).trans (decide_eq_true hm))
        obtain ⟨j, rest2, ho, hj, _⟩ := S_index hin
        have hj := fig_at hj
        walk_at "dl"
        rw [lFigs]
        refine ⟨⟨_, rfl⟩, ?_⟩
        walk_at "dl"
        refine ⟨j, rest2, ho, ?_⟩
        walk_at "dl"
        have e : NumText.digitsVal (fs.take (i + 1)) = NumText.digitsVal (fs.take i) * 10 + j := by
          unfold NumText.digitsVal
          rw [fold_take hcc]
          show _ * 10 + (c - 48) = _
          omega
        rw [e]
        exact ⟨_, rfl⟩
      · rintro ρ ⟨a, rfl⟩
        rw [List.take_length]
        walk_at "dl"
        refine ⟨_, hat0, ?_⟩
        walk_at "dl"
        exact q
    walk_at "dl"
    rw [S_len]
    refine ⟨by omega, ?_⟩
    walk_at "dl"
    refine ⟨fun h4 => ?_, fun h4 => ?_⟩
    · have h4 := of_decide_eq_true h4
      cases fs with
      | nil => simp at h4
      | cons d r =>
        walk_at "dl"
        refine ⟨by rw [S_len]; omega, d, S_at (l := d :: r) (i := 0) rfl, ?_⟩
        walk_at "dl"
        rw [sgnL l00]
        refine ⟨fun h5 => ?_, fun h5 => ?_⟩
        · have h5 := of_decide_eq_true h5
          rw [if_neg (fun z => z.2.2 ⟨by omega, h5⟩)] at q
          walk_at "dl"
          exact q
        · exact ssw_nil (last fun z => of_decide_eq_false h5 z.2)
    · have h4 := of_decide_eq_false h4
      exact ⟨fun z => Bool.noConfusion z, fun _ => ssw_nil (last fun z => h4 (by omega))⟩
end
section
variable {P : Program} {w : World} {K : PySem.W.Frag} {mg : Str → Option Value} {base : Heap} {n : Nat}
def w_Lsigns : GAB := fun bs ds P => ds = [] ∧ BoxOk bs ∧ ∀ l bs', l.length ≤ 10 → (∀ c ∈ l, c < 128) → BoxOk bs' → P (.str (S l)) bs'
theorem lAlph : Str.ofString "ab1 .:-n\\\\\n+" = S [97, 98, 49, 32, 46, 58, 45, 110, 92, 92, 10, 43] := by decide +kernel
theorem flat1 (x : List Nat) : (x.map fun c => [c]).flatten = x := by
  induction x with
  | nil => rfl
  | cons c x ih =>
    rw [List.map_cons, List.flatten_cons, ih]
    rfl
theorem join1 (x : List Nat) : Txt.join (Str.ofString "") (x.map fun c => S [c]) = S x := by
  have h : Txt.join (Str.ofString "") ((x.map fun c => [c]).map S) = S (x.map fun c => [c]).flatten := by
    rw [l0]
    exact (StrLaws.glued_eq_join _ _).trans (S_join0 _)
  rw [flat1, List.map_map] at h
  exact h
theorem ok_Lsigns {f : Addr} {fd : FuncData} (F : Fun K "_law_signs" "_law_signs" s_Lsigns f fd) (m_range : mg "range" = none) (c_Lpick : CalB P w K mg base n "_law_pick" w_Lpick) : FnG P w K mg base (n + 1) f fd ["box"] (SpB K w_Lsigns) := by
  refine fg_box F sc_Lsigns (fun bs ds post ⟨e, _⟩ => by rw [e]; rfl) fun cdv A outer s H E bs ds post hr hgd ⟨e, hb, q⟩ => ?_
  subst e
  have nd := sc_Lsigns.nd
  refine ssw_cons ?_
  show SW _ _ _ [.ow (.lst bs), .un] _
  walk_at "dl"
  refine ⟨⟨_, rfl⟩, ?_⟩
  walk_at "dl"
  refine EN.ew (en_lc (own := [("k", 1)]) rfl nd (blkOk_of sc_Lsigns rfl rfl (by decide +kernel)) ?_)
  walk_at "dl"
  refine ⟨_, rfl, _, rfl, hb, .inr ⟨_, rfl, ⟨by decide, by decide⟩, fun x bs hx hb => ?_⟩⟩
  have hx : ∃ n : Nat, x = .int (n : Int) ∧ n ≤ 10 := by
    simp only [List.mem_cons, List.not_mem_nil, or_false] at hx
    rcases hx with rfl | rfl | rfl | rfl | rfl
    · exact ⟨0, rfl, by decide⟩
    · exact ⟨1, rfl, by decide⟩
    · exact ⟨3, rfl, by decide⟩
    · exact ⟨6, rfl, by decide⟩
    · exact ⟨10, rfl, by decide⟩
  obtain ⟨n, rfl, hn⟩ := hx
  show AW _ [] _ _
  walk_at "dl"
  refine ⟨(n : Int), rfl, by omega, noOw1 rfl, ?_⟩
  rw [show ((n : Int)).toNat = n by omega]
  refine rgL (fun k acc ρ => ∃ bs x, (BoxOk bs ∧ x.length ≤ k ∧ ∀ c ∈ x, c < 128) ∧ acc = (x.map fun c => PyData.str (S [c])) ∧ ρ = [.ow (.lst bs), .un]) ⟨bs, [], ⟨hb, Nat.le_refl _, by simp⟩, rfl, rfl⟩ ?_ ?_
  · rintro k acc ρ hk ⟨bs, x, ⟨hb, hxl, hxc⟩, rfl, rfl⟩
    walk_at "dl"
    refine ⟨_, rfl, _, rfl, hb, .inl ⟨_, congrArg PyData.str lAlph, ⟨by decide, by decide⟩, fun c bs hc hb => ?_⟩⟩
    have hc : c < 128 := by
      simp only [List.mem_cons, List.not_mem_nil, or_false] at hc
      omega
    refine ⟨bs, x ++ [c], ⟨hb, by rw [List.length_append, List.length_singleton]; omega, fun d m => ?_⟩, by simp, rfl⟩
    rcases List.mem_append.mp m with m | m
    · exact hxc d m
    · rw [List.mem_singleton.mp m]
      exact hc
  · rintro acc ρ ⟨bs, x, ⟨hb, hxl, hxc⟩, rfl, rfl⟩
    refine ⟨x.map fun c => S [c], ?_, ?_, ?_⟩
    · rw [List.map_map]
      rfl
    · have e : ∀ x : List Nat, ((x.map fun c => S [c]).map fun s => s.length).sum = x.length := fun x => by
        induction x with
        | nil => rfl
        | cons c x ih =>
          rw [List.map_cons, List.map_cons, List.sum_cons, ih, S_len, List.length_cons, List.length_nil, List.length_cons]
          omega
      rw [e, l0, S_len]
      simp
      omega
    rw [join1]
    exact ⟨bs, rfl, q x bs (by omega) hxc hb⟩
end
section
variable {P : Program} {w : World} {K : PySem.W.Frag} {mg : Str → Option Value} {base : Heap} {n : Nat}
/-- a text of few signs -/
def TxD (n : Nat) (d : PyData) : Prop := ∃ t : List Nat, d = .str (S t) ∧ t.length ≤ n ∧ ∀ c ∈ t, c < 128
theorem txd_lits (n : Nat) (ss : List String) (h : (ss.all fun s => decide (s.toList.length ≤ n) && s.toList.all fun c => decide (c.toNat < 128)) = true) : ∀ x ∈ ss.map fun s => PyData.str (Str.ofString s), TxD n x := by
  intro x m
  obtain ⟨s, hs, rfl⟩ := List.mem_map.mp m
  have h := List.all_eq_true.mp h s hs
  simp only [Bool.and_eq_true, decide_eq_true_eq, List.all_eq_true] at h
  refine ⟨s.toList.map Char.toNat, congrArg PyData.str (S_lit s), by rw [List.length_map]; exact h.1, fun c m => ?_⟩
  obtain ⟨d, hd, rfl⟩ := List.mem_map.mp m
  exact h.2 d hd
theorem pick_tx {n : Nat} {ss : List String} {bs : List PyData} {P : PyData → List PyData → Prop} (hb : BoxOk bs) (hl : 0 < ss.length ∧ ss.length ≤ 1000) (h : (ss.all fun s => decide (s.toList.length ≤ n) && s.toList.all fun c => decide (c.toNat < 128)) = true)
    (q : ∀ t bs', t.length ≤ n → (∀ c ∈ t, c < 128) → BoxOk bs' → P (.str (S t)) bs') : w_Lpick bs [.list (ss.map fun s => PyData.str (Str.ofString s))] P :=
  ⟨_, rfl, hb, .inr ⟨_, rfl, by rw [List.length_map]; exact hl, fun x bs' m hb' => by
    obtain ⟨t, rfl, h1, h2⟩ := txd_lits n ss h x m
    exact q t bs' h1 h2 hb'⟩⟩
def w_Lspoilt : GAB := fun bs ds P => ∃ d : Deed, ds = [d.data] ∧ DeedOk d ∧ BoxOk bs ∧ ∀ l bs', l.length ≤ 500 → (∀ c ∈ l, c < 128) → BoxOk bs' → P (.str (S l)) bs'
theorem lt_app {a b : List Nat} (ha : ∀ c ∈ a, c < 128) (hb : ∀ c ∈ b, c < 128) : ∀ c ∈ a ++ b, c < 128 := fun c m => (List.mem_append.mp m).elim (ha c) (hb c)
theorem chk_lt (l : List Nat) : ∀ c ∈ chkT l, c < 128 := fun c m => by have := chkT_fig l c m; omega
theorem nl_lt : ∀ c ∈ [10], c < 128 := by simp
theorem ok_Lspoilt {f : Addr} {fd : FuncData} (F : Fun K "_law_spoilt" "_law_spoilt" s_Lspoilt f fd) (m_len : mg "len" = none) (m_str : mg "str" = none) (c_Ldraw : CalB P w K mg base n "_law_draw" w_Ldraw) (c_Lsealed : CalP P w K mg base n "_law_sealed" w_Lsealed) (c_Lpick : CalB P w K mg base n "_law_pick" w_Lpick) (c_Lescaped : CalP P w K mg base n "_law_escaped" w_Lescaped) (c_Lcheck : CalP P w K mg base n "_law_check" w_Lcheck) : FnG P w K mg base (n + 1) f fd ["box", "deed"] (SpB K w_Lspoilt) := by
  refine fg_box F sc_Lspoilt (fun bs ds post ⟨d, e, _⟩ => by rw [e]; rfl) fun cdv A outer s H E bs ds post hr hgd ⟨d, e, hd, hb, q⟩ => ?_
  subst e
  have nd := sc_Lspoilt.nd
  have hu := hu_room hr
  have hbl := body_len hd
  have hbt := body_lt hd
  refine ssw_cons ?_
  show SW _ _ _ [.ow (.lst bs), .pd d.data, .un, .un, .un, .un] _
  have tail : SsW (DCx P w K mg base ["box", "deed", "body", "kind", "row", "at"] "_law_spoilt" (defScope s_Lspoilt) f cdv A outer s H E) [0] (defBody s_Lspoilt).tail [.ow (.lst bs), .pd d.data, .pd (.str (S (bodyT d))), .un, .un, .un]
      { nx := fun ρ' => ∃ bs', ρ'[0]? = some (.ow (.lst bs')) ∧ post .none bs', rt := fun d ρ' => ∃ bs', ρ'[0]? = some (.ow (.lst bs')) ∧ post d bs' } := by
    generalize bodyT d = b at *
    refine ssw_cons ?_
    walk_at "dl"
    refine ⟨_, rfl, _, rfl, by decide, hb, fun r bs hr hb => ?_⟩
    walk_at "dl"
    refine ⟨fun h => ?_, fun h => ?_⟩
    · walk_at "dl"
      refine ⟨_, rfl, pick_tx (n := 6) (ss := ["\\", "\\x", "0", "-", " "]) hb ⟨by decide, by decide⟩ (by decide +kernel) fun t bs ht hc hb => ?_⟩
      walk_at "dl"
      refine ⟨by rw [S_len, S_len]; omega, ?_⟩
      rw [S_app]
      walk_at "dl"
      refine ⟨b ++ t, rfl, by rw [List.length_append]; omega, ?_⟩
      exact ⟨_, rfl, q _ _ (by rw [seal_len, List.length_append]; omega) (seal_lt (lt_app hbt hc)) hb⟩
    walk_at "dl"
    refine ⟨fun h => ?_, fun h => ?_⟩
    · walk_at "dl"
      refine ⟨_, rfl, pick_tx (n := 6) (ss := ["", "+", "-", "-0", "-00", "-07", "-9999", "-12345", "*a", "-1x"]) hb ⟨by decide, by decide⟩ (by decide +kernel) fun t bs ht hc hb => ?_⟩
      walk_at "dl"
      refine ⟨t, rfl, by omega, ?_⟩
      exact ⟨_, rfl, q _ _ (by rw [seal_len]; omega) (seal_lt hc) hb⟩
    walk_at "dl"
    refine ⟨fun h => ?_, fun h => ?_⟩
    · walk_at "dl"
      refine ⟨b, rfl, by omega, ?_⟩
      walk_at "dl"
      refine ⟨by rw [S_len, S_len, chkT_len]; omega, ?_⟩
      rw [S_app]
      exact ⟨_, rfl, q _ _ (by rw [List.length_append, chkT_len]; omega) (lt_app (chk_lt b) hbt) hb⟩
    walk_at "dl"
    refine ⟨fun h => ?_, fun h => ?_⟩
    · walk_at "dl"
      refine ⟨b, rfl, by omega, ?_⟩
      walk_at "dl"
      refine ⟨by rw [S_len, chkT_len]; omega, ?_⟩
      rw [cT3]
      have h3 : ((chkT b).take 3).length ≤ 3 := by rw [List.length_take]; omega
      walk_at "dl"
      refine ⟨by rw [S_len, S_len]; omega, ?_⟩
      rw [S_app]
      walk_at "dl"
      refine ⟨?_, ?_⟩
      · rw [lNl, S_len, S_len, List.length_append]
        show _ + 1 ≤ _
        omega
      rw [lNl, S_app]
      refine ⟨_, rfl, q _ _ ?_ (lt_app (lt_app (fun c m => chk_lt b c (List.mem_of_mem_take m)) hbt) nl_lt) hb⟩
      rw [List.length_append, List.length_append]
      show _ + 1 ≤ _
      omega
    walk_at "dl"
    refine ⟨fun h => ?_, fun h => ?_⟩
    · walk_at "dl"
      refine ⟨b, rfl, by omega, ?_⟩
      walk_at "dl"
      refine ⟨by rw [S_len, seal_len]; omega, ?_⟩
      rw [cD1]
      exact ⟨_, rfl, q _ _ (by rw [List.length_drop, seal_len]; omega) (fun c m => seal_lt hbt c (List.mem_of_mem_drop m)) hb⟩
    walk_at "dl"
    refine ⟨fun h => ?_, fun h => ?_⟩
    · walk_at "dl"
      refine ⟨by rw [show Str.ofString " " = S [32] by decide +kernel, S_len, S_len]; show _ + 1 ≤ _; omega, ?_⟩
      rw [show Str.ofString " " = S [32] by decide +kernel, S_app]
      walk_at "dl"
      refine ⟨b ++ [32], rfl, by rw [List.length_append]; show _ + 1 ≤ _; omega, ?_⟩
      walk_at "dl"
      refine ⟨by rw [S_len, S_len, chkT_len]; omega, ?_⟩
      rw [S_app]
      walk_at "dl"
      refine ⟨?_, ?_⟩
      · rw [lNl, S_len, S_len, List.length_append, chkT_len]
        show _ + 1 ≤ _
        omega
      rw [lNl, S_app]
      refine ⟨_, rfl, q _ _ ?_ (lt_app (lt_app (chk_lt _) hbt) nl_lt) hb⟩
      rw [List.length_append, List.length_append, chkT_len]
      show _ + 1 ≤ _
      omega
    walk_at "dl"
    refine ⟨fun h => ?_, fun h => ?_⟩
    · walk_at "dl"
      refine ⟨[43, 97], congrArg (fun x => [PyData.str x]) (show Str.ofString "+a" = S [43, 97] by decide +kernel), by decide, ?_⟩
      walk_at "dl"
      refine ⟨by rw [show Str.ofString "+b\n" = S [43, 98, 10] by decide +kernel, S_len, S_len, chkT_len]; decide, ?_⟩
      rw [show Str.ofString "+b\n" = S [43, 98, 10] by decide +kernel, S_app]
      walk_at "dl"
      refine ⟨_, rfl, _, rfl, hb, .inr ⟨_, rfl, ⟨by decide, by decide⟩, fun x bs hx hb => ?_⟩⟩
      have hx : TxD 10 x := by
        rcases (List.mem_append (s := ["", "\n", "0001\n", "0001"].map fun s => PyData.str (Str.ofString s)) (t := [PyData.str (S (chkT [43, 97] ++ [43, 98, 10]))])).mp hx with m | m
        · exact txd_lits 10 _ (by decide +kernel) x m
        · rw [List.mem_singleton.mp m]
          exact ⟨_, rfl, by rw [List.length_append, chkT_len]; decide, lt_app (chk_lt _) (by simp)⟩
      obtain ⟨t, rfl, ht, hc⟩ := hx
      exact ⟨_, rfl, q t _ (by omega) hc hb⟩
    walk_at "dl"
    refine ⟨b, rfl, by omega, ?_⟩
    have hsl := seal_len b
    have hsc := seal_lt hbt
    generalize sealT b = w at *
    walk_at "dl"
    rw [S_len]
    refine ⟨by omega, ?_⟩
    walk_at "dl"
    refine ⟨_, rfl, _, rfl, by omega, hb, fun at_ bs hat hb => ?_⟩
    walk_at "dl"
    refine ⟨by rw [S_len]; omega, ?_⟩
    rw [S_cutT]
    walk_at "dl"
    refine ⟨_, rfl, pick_tx (n := 6) (ss := ["", "a", "\n", "7", "\\"]) hb ⟨by decide, by decide⟩ (by decide +kernel) fun t bs ht hc hb => ?_⟩
    have h1 : (w.take at_).length ≤ w.length := by rw [List.length_take]; omega
    walk_at "dl"
    refine ⟨by rw [S_len, S_len]; omega, ?_⟩
    rw [S_app]
    walk_at "dl"
    refine ⟨by rw [S_len]; omega, ?_⟩
    rw [show (at_ : Int) + 1 = ((at_ + 1 : Nat) : Int) from rfl, S_cutD]
    have h2 : (w.drop (at_ + 1)).length ≤ w.length := by rw [List.length_drop]; omega
    walk_at "dl"
    refine ⟨by rw [S_len, S_len, List.length_append]; omega, ?_⟩
    rw [S_app]
    exact ⟨_, rfl, q _ _ (by rw [List.length_append, List.length_append]; omega) (lt_app (lt_app (fun c m => hsc c (List.mem_of_mem_take m)) hc) fun c m => hsc c (List.mem_of_mem_drop m)) hb⟩
  cases d with
  | add l =>
    have hl := esc_len l
    have h1 := hd.1
    show SW _ _ _ [.ow (.lst bs), .pd (.tuple [.str "add", .str (S l)]), .un, .un, .un, .un] _
    walk_at "dl"
    refine ⟨_, rfl, ?_⟩
    walk_at "dl"
    rw [lAdd]
    walk_at "dl"
    refine ⟨_, rfl, ?_⟩
    walk_at "dl"
    refine ⟨l, rfl, by omega, ?_⟩
    walk_at "dl"
    refine ⟨by rw [lPl, S_len, S_len]; simp; omega, ?_⟩
    rw [lPl, S_app]
    exact tail
  | drop n =>
    show SW _ _ _ [.ow (.lst bs), .pd (.tuple [.str "drop", .int n]), .un, .un, .un, .un] _
    have hn : n < 10000 := by
      simp only [DeedOk, List.mem_cons, List.not_mem_nil, or_false] at hd
      omega
    have hl := dig_le hn
    walk_at "dl"
    refine ⟨_, rfl, ?_⟩
    walk_at "dl"
    rw [lDrop]
    walk_at "dl"
    refine ⟨_, rfl, ?_⟩
    walk_at "dl"
    refine ⟨log_ok (Nat.lt_trans hn (by decide)), ?_⟩
    rw [dig_str]
    walk_at "dl"
    refine ⟨by rw [lMi, S_len, S_len]; simp; omega, ?_⟩
    rw [lMi, S_app]
    exact tail
end
section
variable {P : Program} {w : World} {K : PySem.W.Frag} {mg : Str → Option Value} {base : Heap} {n : Nat}
theorem esc_ge (l : List Nat) : l.length ≤ (esc l).length := by
  induction l with
  | nil => exact Nat.le_refl _
  | cons c l ih =>
    rw [esc_cons, List.length_append, List.length_cons]
    have := (esc1_len c).1
    omega
theorem esc_mem {l : List Nat} {c : Nat} (h : c ∈ l) : c = 92 ∨ c = 10 ∨ c ∈ esc l := by
  by_cases h1 : c = 92
  · exact .inl h1
  · by_cases h2 : c = 10
    · exact .inr (.inl h2)
    · refine .inr (.inr (List.mem_flatMap.mpr ⟨c, h, ?_⟩))
      unfold esc1
      rw [if_neg h1, if_neg h2]
      exact List.mem_singleton.mpr rfl
theorem unesc_tx {l f : List Nat} (hc : ∀ c ∈ l, c < 128) (h : unesc l = some f) : f.length ≤ l.length ∧ ∀ c ∈ f, c < 128 := by
  have e := esc_unesc l.length l f (Nat.le_refl _) h
  refine ⟨by rw [← e]; exact esc_ge f, fun c m => ?_⟩
  rcases esc_mem m with rfl | rfl | z
  · decide
  · decide
  · rw [e] at z
    exact hc c z
theorem sm_tx {D : Nat} {l : List Nat} (hc : ∀ c ∈ l, c < 128) (hl : l.length ≤ 4000) : Sm D 4000 (.str (S l)) := sm_str (tx_ok hc) (by rw [S_len]; exact hl)
theorem same_tx {l : List Nat} (hc : ∀ c ∈ l, c < 128) (hl : l.length ≤ 4000) : SameOk 30 (.str (S l)) := Sm.same (W := 4000) (by decide) 30 (by decide) (sm_tx hc hl)
theorem same_opt {l : List Nat} (hc : ∀ c ∈ l, c < 128) (hl : l.length ≤ 4000) : SameOk 30 (optD (unesc l)) := by
  cases h : unesc l with
  | none => exact trivial
  | some f =>
    obtain ⟨h1, h2⟩ := unesc_tx hc h
    exact same_tx h2 (by omega)
theorem sm_deed {d : Deed} (h : (∃ l, d = .add l ∧ l.length ≤ 4000 ∧ ∀ c ∈ l, c < 128) ∨ ∃ n, d = .drop n ∧ n < 1000000) : Sm 2 9000 d.data := by
  rcases h with ⟨l, rfl, h1, h2⟩ | ⟨n, rfl, h⟩
  · refine sm_tuple (D := 1) (W := 4000) (n := 2) (fun x m => ?_) (Nat.le_refl _) (Nat.le_refl _) (by decide)
    rcases List.mem_cons.mp m with m | m
    · rw [m]
      exact sm_str (strOk_lit _) (by decide +kernel)
    · rw [List.mem_singleton.mp m]
      exact sm_tx h2 h1
  · refine sm_tuple (D := 1) (W := 4000) (n := 2) (fun x m => ?_) (Nat.le_refl _) (Nat.le_refl _) (by decide)
    rcases List.mem_cons.mp m with m | m
    · rw [m]
      exact sm_str (strOk_lit _) (by decide +kernel)
    · rw [List.mem_singleton.mp m]
      exact sm_nat (by omega) (by decide)
theorem same_read {d : Deed} {n : Nat} (h : (∃ l, d = .add l ∧ l.length ≤ 4000 ∧ ∀ c ∈ l, c < 128) ∨ ∃ n, d = .drop n ∧ n < 1000000) (hn : n < 1000000) : SameOk 30 (.tuple [d.data, .int (n : Int)]) :=
  Sm.same (W := 40000) (by decide) 30 (by decide) ((sm_tuple (D := 2) (W := 9000) (n := 2) (D' := 3) (W' := 40000) (fun x m => by
    rcases List.mem_cons.mp m with m | m
    · rw [m]
      exact sm_deed h
    · rw [List.mem_singleton.mp m]
      exact sm_nat (by omega) (by decide)) (Nat.le_refl _) (by decide) (by decide)).mono (by decide) (Nat.le_refl _))
theorem val_lt {f : List Nat} (h : FigOk f) : NumText.digitsVal f < 1000000 := by
  obtain ⟨⟨h1, h2⟩, h3⟩ := h
  match f, h1, h2, h3 with
  | [a], _, _, h3 =>
    have := h3 a (by simp)
    show (0 * 10 + (a - 48)) < _
    omega
  | [a, b], _, _, h3 =>
    have := h3 a (by simp)
    have := h3 b (by simp)
    show ((0 * 10 + (a - 48)) * 10 + (b - 48)) < _
    omega
  | [a, b, c], _, _, h3 =>
    have := h3 a (by simp)
    have := h3 b (by simp)
    have := h3 c (by simp)
    show (((0 * 10 + (a - 48)) * 10 + (b - 48)) * 10 + (c - 48)) < _
    omega
  | [a, b, c, d], _, _, h3 =>
    have := h3 a (by simp)
    have := h3 b (by simp)
    have := h3 c (by simp)
    have := h3 d (by simp)
    show ((((0 * 10 + (a - 48)) * 10 + (b - 48)) * 10 + (c - 48)) * 10 + (d - 48)) < _
    omega
  | _ :: _ :: _ :: _ :: _ :: r, _, h2, _ => simp at h2
theorem same_readD {l : List Nat} {k : Nat} (hc : ∀ c ∈ l, c < 128) (hl : l.length ≤ 900) (hk : k ≤ 900) : SameOk 30 (readD k (readR l)) := by
  have hn := rowN_le l
  unfold readR
  split
  · exact trivial
  split
  · exact trivial
  have hb : ((l.take (rowN l)).drop 4).length ≤ 900 := by
    rw [List.length_drop, List.length_take]
    omega
  have hbc : ∀ c ∈ (l.take (rowN l)).drop 4, c < 128 := fun c m => hc c (List.mem_of_mem_take (List.mem_of_mem_drop m))
  generalize (l.take (rowN l)).drop 4 = b at *
  have ht : b.tail.length ≤ 900 := by rw [List.length_tail]; omega
  have htc : ∀ c ∈ b.tail, c < 128 := fun c m => hbc c (List.mem_of_mem_tail m)
  unfold readB
  split
  · cases hu : unesc b.tail with
    | none => exact trivial
    | some f =>
      obtain ⟨h1, h2⟩ := unesc_tx htc hu
      exact same_read (n := k + (rowN l + 1)) (.inl ⟨f, rfl, by omega, h2⟩) (by omega)
  · split
    · rename_i h
      exact same_read (n := k + (rowN l + 1)) (.inr ⟨_, rfl, val_lt h.2.1⟩) (by omega)
    · exact trivial
theorem deed_sm {d : Deed} (h : DeedOk d) : (∃ l, d = .add l ∧ l.length ≤ 4000 ∧ ∀ c ∈ l, c < 128) ∨ ∃ n, d = .drop n ∧ n < 1000000 := by
  cases d with
  | add l => exact .inl ⟨l, rfl, Nat.le_trans h.1 (by decide), h.2⟩
  | drop n =>
    refine .inr ⟨n, rfl, ?_⟩
    simp only [DeedOk, List.mem_cons, List.not_mem_nil, or_false] at h
    omega
theorem rec_lt {d : Deed} (h : DeedOk d) : ∀ c ∈ recT d, c < 128 := seal_lt (body_lt h)
theorem rec_cut {d : Deed} {k : Nat} (h : k < (recT d).length) : 10 ∉ (recT d).take k := by
  have e : (recT d).take k = (chkT (bodyT d) ++ bodyT d).take k := by
    unfold recT sealT at h ⊢
    rw [List.take_append_of_le_length]
    rw [List.length_append] at h
    have : ([10] : List Nat).length = 1 := rfl
    omega
  rw [e]
  intro m
  exact (List.mem_append.mp (List.mem_of_mem_take m)).elim (chkT_free _) bodyT_free
end
section
variable {P : Program} {w : World} {K : PySem.W.Frag} {mg : Str → Option Value} {base : Heap} {n : Nat}
def w_law : GA := fun ds P => ∃ ns : List Int, ds = [.list (dI ns)] ∧ P (.bool true)
theorem ok_law {f : Addr} {fd : FuncData} (F : Fun K "law" "law" s_law f fd) (m_range : mg "range" = none) (m_len : mg "len" = none) (c_Ldigits : CalP P w K mg base n "_law_digits" w_Ldigits) (c_Lsigns : CalB P w K mg base n "_law_signs" w_Lsigns) (c_Lpick : CalB P w K mg base n "_law_pick" w_Lpick) (c_Lrecord : CalP P w K mg base n "_law_record" w_Lrecord) (c_Lsame : CalP P w K mg base n "_law_same" w_Lsame) (c_check_of : CalP P w K mg base n "check_of" w_check_of) (c_record : CalP P w K mg base n "record" w_record) (c_appended : CalP P w K mg base n "appended" w_appended) (c_read_record : CalP P w K mg base n "read_record" w_read_record) (c_Lcheck : CalP P w K mg base n "_law_check" w_Lcheck) (c_escaped : CalP P w K mg base n "escaped" w_escaped) (c_Lescaped : CalP P w K mg base n "_law_escaped" w_Lescaped) (c_plain : CalP P w K mg base n "plain" w_plain) (c_Lplain : CalP P w K mg base n "_law_plain" w_Lplain) (c_Lspoilt : CalB P w K mg base n "_law_spoilt" w_Lspoilt) (c_Lread : CalP P w K mg base n "_law_read" w_Lread) (c_Ldraw : CalB P w K mg base n "_law_draw" w_Ldraw) : FnG P w K mg base (n + 1) f fd ["script"] (SpP K w_law) := by
  refine fg_pure F sc_law (fun ds post ⟨b, e, _⟩ => by rw [e]; rfl) fun cdv A outer s H E ds post hr hgd ⟨ns, e, q⟩ => ?_
  subst e
  have nd := sc_law.nd
  have hu := hu_room hr
  have o1 : Ow 1 := trivial
  refine ssw_cons ?_
  show SW _ _ _ [.pd (.list (dI ns)), .un, .un, .un, .un, .un, .un, .un, .un, .un] _
  walk_at "dl"
  refine ⟨ns, 60, rfl, by decide, fun gs hgs => ?_⟩
  walk_at "dl"
  refine sw_for (ts := [2]) PassesOwn.never rfl (by decide) ?_
  walk_at "dl"
  refine ⟨5, rfl, by decide, ?_⟩
  rw [show Int.toNat 5 = 5 from rfl]
  refine rgJ0 (fun i ρ => ∃ bs a2 a3 a4 a5 a6 a7 a8 a9, BoxOk bs ∧ ρ = [.pd (.list (dI ns)), .ow (.lst bs), a2, a3, a4, a5, a6, a7, a8, a9]) ⟨_, _, _, _, _, _, _, _, _, ⟨gs, 0, rfl, hgs⟩, rfl⟩ ?_ ?_
  · rintro i ρ hi ⟨bs, a2, a3, a4, a5, a6, a7, a8, a9, hb, rfl⟩
    walk_at "dl"
    refine ⟨_, rfl, rfl, hb, fun l bs hl hc hb => ?_⟩
    have hel := esc_len l
    walk_at "dl"
    refine ⟨l, rfl, by omega, ?_⟩
    walk_at "dl"
    refine ⟨l, rfl, by omega, ?_⟩
    walk_at "dl"
    refine ⟨_, rfl, same_tx (esc_lt hc) (by omega), ?_⟩
    walk_at "dl"
    refine ⟨l, rfl, by omega, ?_⟩
    walk_at "dl"
    refine ⟨esc l, rfl, by omega, esc_lt hc, ?_⟩
    rw [unesc_esc]
    dsimp only [optD]
    walk_at "dl"
    refine ⟨_, rfl, same_tx hc (by omega), ?_⟩
    walk_at "dl"
    refine ⟨l, rfl, by omega, hc, ?_⟩
    walk_at "dl"
    refine ⟨l, rfl, by omega, hc, ?_⟩
    walk_at "dl"
    refine ⟨_, rfl, same_opt hc (by omega), ?_⟩
    walk_at "dl"
    refine ⟨l, rfl, by omega, ?_⟩
    walk_at "dl"
    refine ⟨l, rfl, by omega, ?_⟩
    walk_at "dl"
    refine ⟨_, rfl, same_tx (chk_lt l) (by rw [chkT_len]; decide), ?_⟩
    walk_at "dl"
    refine ⟨_, rfl, _, rfl, hb, .inr ⟨_, rfl, ⟨by decide, by decide⟩, fun x bs hx hb => ?_⟩⟩
    have hx : ∃ n : Nat, x = .int (n : Int) ∧ n ∈ [0, 3, 7, 10, 999, 9999] := by
      simp only [List.mem_cons, List.not_mem_nil, or_false] at hx
      rcases hx with rfl | rfl | rfl | rfl | rfl
      · exact ⟨0, rfl, by decide⟩
      · exact ⟨7, rfl, by decide⟩
      · exact ⟨10, rfl, by decide⟩
      · exact ⟨999, rfl, by decide⟩
      · exact ⟨9999, rfl, by decide⟩
    obtain ⟨nn, rfl, hnn⟩ := hx
    show AW _ [] _ _
    walk_at "dl"
    refine ⟨_, rfl, _, rfl, hb, .inr ⟨_, rfl, ⟨Nat.le_of_ble_eq_true rfl, Nat.le_of_ble_eq_true rfl⟩, fun x bs hx hb => ?_⟩⟩
    have hx : ∃ d : Deed, x = d.data ∧ DeedOk d := by
      rcases List.mem_cons.mp hx with rfl | hx
      · exact ⟨.add l, rfl, by omega, hc⟩
      · rw [List.mem_singleton.mp hx]
        exact ⟨.drop nn, rfl, hnn⟩
    obtain ⟨d, rfl, hd⟩ := hx
    have hbl := body_len hd
    have hrl : (recT d).length = (bodyT d).length + 5 := seal_len (bodyT d)
    have hrc := rec_lt hd
    have hsr : SameOk 30 (.str (S (recT d))) := same_tx hrc (by omega)
    show SsW _ _ _ _ _
    walk_at "dl"
    refine ⟨d, rfl, hd, ?_⟩
    walk_at "dl"
    refine sw_par 6 7 (ps_par rfl nd rfl rfl (by decide) rfl rfl (pa_any _) rfl) (by decide) (by decide) ?_
    walk_at "dl"
    refine ⟨_, rfl, rfl, hb, fun j bs hj hjc hb => ?_⟩
    walk_at "dl"
    refine ⟨_, rfl, rfl, hb, fun tl bs htl htc hb => ?_⟩
    walk_at "dl"
    refine ⟨_, _, rfl, ?_⟩
    walk_at "dl"
    refine ⟨d, rfl, hd, ?_⟩
    walk_at "dl"
    refine ⟨_, rfl, hsr, ?_⟩
    have hdrop : ∀ x : List Nat, (j ++ x).drop j.length = x := fun x => List.drop_left' rfl
    walk_at "dl"
    refine ⟨by rw [S_len, S_len]; omega, ?_⟩
    rw [S_app]
    walk_at "dl"
    refine ⟨by rw [S_len, S_len, List.length_append]; omega, ?_⟩
    rw [S_app]
    walk_at "dl"
    rw [S_len]
    refine ⟨by omega, ?_⟩
    walk_at "dl"
    refine ⟨j ++ recT d ++ tl, j.length, rfl, by rw [List.length_append, List.length_append]; omega, by rw [List.length_append, List.length_append]; omega, lt_app (lt_app hjc hrc) htc, ?_⟩
    rw [List.append_assoc, hdrop, readR_rec hd]
    dsimp only [readD]
    walk_at "dl"
    rw [S_len]
    refine ⟨by omega, ?_⟩
    walk_at "dl"
    rw [S_len]
    refine ⟨by omega, ?_⟩
    walk_at "dl"
    refine ⟨_, rfl, same_read (n := j.length + (recT d).length) (deed_sm hd) (by omega), ?_⟩
    walk_at "dl"
    refine ⟨by rw [S_len, S_len]; omega, ?_⟩
    rw [S_app]
    walk_at "dl"
    rw [S_len]
    refine ⟨by omega, ?_⟩
    walk_at "dl"
    refine ⟨j ++ tl, j.length, d, rfl, by rw [List.length_append]; omega, hd, ?_⟩
    rw [List.take_left' rfl]
    walk_at "dl"
    refine ⟨by rw [S_len, S_len]; omega, ?_⟩
    rw [S_app]
    walk_at "dl"
    refine ⟨_, rfl, same_tx (lt_app hjc hrc) (by rw [List.length_append]; omega), ?_⟩
    walk_at "dl"
    refine sw_for (ts := [8]) PassesOwn.never rfl (by decide) ?_
    walk_at "dl"
    refine ⟨4, rfl, by decide, ?_⟩
    rw [show Int.toNat 4 = 4 from rfl]
    refine rgJ0 (fun _ ρ => ∃ bs a8 a9, BoxOk bs ∧ ρ = [.pd (.list (dI ns)), .ow (.lst bs), .pd (.int (i : Nat)), .pd (.str (S l)), .pd d.data, .pd (.str (S (recT d))), .pd (.str (S j)), .pd (.str (S tl)), a8, a9]) ⟨_, _, _, hb, rfl⟩ ?_ ?_
    · rintro i2 ρ hi2 ⟨bs, a8, a9, hb, rfl⟩
      walk_at "dl"
      refine ⟨_, rfl, d, rfl, hd, hb, fun sp bs hsp hspc hb => ?_⟩
      walk_at "dl"
      refine ⟨by rw [S_len, S_len]; omega, ?_⟩
      rw [S_app]
      walk_at "dl"
      refine ⟨by rw [S_len, S_len, List.length_append]; omega, ?_⟩
      rw [S_app]
      have hbent : (j ++ sp ++ tl).length ≤ 900 := by rw [List.length_append, List.length_append]; omega
      have hbentc : ∀ c ∈ j ++ sp ++ tl, c < 128 := lt_app (lt_app hjc hspc) htc
      have hj2 : j.length ≤ (j ++ sp ++ tl).length := by rw [List.length_append, List.length_append]; omega
      generalize j ++ sp ++ tl = w at *
      walk_at "dl"
      rw [S_len]
      refine ⟨by omega, ?_⟩
      walk_at "dl"
      refine ⟨w, j.length, rfl, hj2, hbent, hbentc, ?_⟩
      walk_at "dl"
      rw [S_len]
      refine ⟨by omega, ?_⟩
      walk_at "dl"
      refine ⟨w, j.length, rfl, hj2, hbent, hbentc, ?_⟩
      walk_at "dl"
      refine ⟨_, rfl, same_readD (fun c m => hbentc c (List.mem_of_mem_drop m)) (by rw [List.length_drop]; omega) (by omega), ?_⟩
      walk_at "dl"
      exact ⟨bs, _, _, hb, rfl⟩
    · rintro ρ ⟨bs, a8, a9, hb, rfl⟩
      walk_at "dl"
      rw [S_len]
      refine ⟨by omega, ?_⟩
      walk_at "dl"
      refine ⟨_, rfl, _, rfl, by omega, hb, fun cut bs hcut hb => ?_⟩
      walk_at "dl"
      refine ⟨by rw [S_len]; omega, ?_⟩
      rw [S_cutT]
      have htk : ((recT d).take cut).length ≤ (recT d).length := by rw [List.length_take]; omega
      walk_at "dl"
      refine ⟨by rw [S_len, S_len]; omega, ?_⟩
      rw [S_app]
      walk_at "dl"
      rw [S_len]
      refine ⟨by omega, ?_⟩
      walk_at "dl"
      refine ⟨j ++ (recT d).take cut, j.length, rfl, by rw [List.length_append]; omega, by rw [List.length_append]; omega, lt_app hjc (fun c m => hrc c (List.mem_of_mem_take m)), ?_⟩
      rw [hdrop, readR_free (rec_cut (by omega))]
      dsimp only [readD]
      walk_at "dl"
      rw [S_len]
      refine ⟨by omega, ?_⟩
      walk_at "dl"
      refine ⟨recT d, (recT d).length, rfl, Nat.le_refl _, by omega, hrc, ?_⟩
      rw [List.drop_length, readR_free (by simp)]
      dsimp only [readD]
      walk_at "dl"
      exact ⟨bs, _, _, _, _, _, _, _, _, hb, rfl⟩
  · rintro ρ ⟨bs, a2, a3, a4, a5, a6, a7, a8, a9, hb, rfl⟩
    walk_at "dl"
    refine ⟨[], congrArg (fun x => [PyData.str x]) l0, by decide, ?_⟩
    walk_at "dl"
    refine ⟨_, congrArg (fun x => [PyData.str (S (chkT [])), .str x]) (show Str.ofString "0001" = S (chkT []) by decide +kernel), same_tx (chk_lt _) (by rw [chkT_len]; decide), ?_⟩
    walk_at "dl"
    refine ⟨[97], congrArg (fun x => [PyData.str x]) (show Str.ofString "a" = S [97] by decide +kernel), by decide, ?_⟩
    walk_at "dl"
    refine ⟨_, congrArg (fun x => [PyData.str (S (chkT [97])), .str x]) (show Str.ofString "0228" = S (chkT [97]) by decide +kernel), same_tx (chk_lt _) (by rw [chkT_len]; decide), ?_⟩
    walk_at "dl"
    have hd3 : DeedOk (.drop 3) := show 3 ∈ [0, 3, 7, 10, 999, 9999] by decide
    refine ⟨.drop 3, rfl, hd3, ?_⟩
    walk_at "dl"
    refine ⟨[45, 51], congrArg (fun x => [PyData.str x]) (show Str.ofString "-3" = S [45, 51] by decide +kernel), by decide, ?_⟩
    walk_at "dl"
    have e3 : S (chkT [45, 51]) ++ Str.ofString "-3\n" = S (recT (.drop 3)) := by
      rw [show Str.ofString "-3\n" = S [45, 51, 10] by decide +kernel, S_app]
      rfl
    refine ⟨by rw [show Str.ofString "-3\n" = S [45, 51, 10] by decide +kernel, S_len, S_len, chkT_len]; decide, ?_⟩
    rw [e3]
    walk_at "dl"
    have hl3 := (body_len hd3).2
    have hr3 : (recT (.drop 3)).length = (bodyT (.drop 3)).length + 5 := seal_len _
    exact ⟨_, rfl, same_tx (rec_lt hd3) (by omega), q⟩
theorem da_ints {K : PySem.W.Frag} {Hb : Hp} : ∀ ns : List Int, DaAll K Hb (ns.map V.int) (dI ns)
  | [] => .nil
  | _ :: ns => .cons (.int _) (da_ints ns)
theorem law_in (w : World) (K : PySem.W.Frag) (H : Hp) (a : Addr) (ns : List Int) (h : RlK K H a (ns.map V.int)) : SpP K w_law [.ref a] H (fun v _ => v = .bl true) fun _ _ _ => False := by
  refine ⟨H, _, fun d => d = .bool true, Sub.refl H, .cons (.lst h (da_ints ns)) .nil, ⟨ns, rfl, rfl⟩, fun v d Hb2 H2 s g da e => ?_⟩
  subst e
  cases da
  rfl
theorem all_mk {l : PySem.W.OpenLaw} {w : World} {K : PySem.W.Frag} {h : Heap} {mg : Str → Option Value} {fa : Addr} (X : K.In h) (G : h.Ns mainGlobals mg) (hfa : mg "law" = some (.ref fa))
    {f_Lcell : Addr} {od_Lcell an_Lcell : Option Addr} {sl_Lcell : Array (Option Value)} {oc_Lcell kV_Lcell dc_Lcell pm_Lcell cd_Lcell ct_Lcell : Value}
    (a_Lcell : PySem.W.nsIn K mainGlobals "_law_cell" = some (some (.ref f_Lcell))) (l_Lcell : K.lookup f_Lcell = some ⟨oc_Lcell, od_Lcell, .func (PySem.W.fnOf "_law_cell" "_law_cell" (defArgs s_Lcell) (defBody s_Lcell) (defScope s_Lcell) .none kV_Lcell dc_Lcell pm_Lcell an_Lcell cd_Lcell ct_Lcell), sl_Lcell⟩) (c_Lcell : PySem.W.codeIn K cd_Lcell "_law_cell" = true) (k_Lcell : PySem.W.keepIn K (.ref f_Lcell) = true)
    {f_Ldigits : Addr} {od_Ldigits an_Ldigits : Option Addr} {sl_Ldigits : Array (Option Value)} {oc_Ldigits kV_Ldigits dc_Ldigits pm_Ldigits cd_Ldigits ct_Ldigits : Value}
    (a_Ldigits : PySem.W.nsIn K mainGlobals "_law_digits" = some (some (.ref f_Ldigits))) (l_Ldigits : K.lookup f_Ldigits = some ⟨oc_Ldigits, od_Ldigits, .func (PySem.W.fnOf "_law_digits" "_law_digits" (defArgs s_Ldigits) (defBody s_Ldigits) (defScope s_Ldigits) .none kV_Ldigits dc_Ldigits pm_Ldigits an_Ldigits cd_Ldigits ct_Ldigits), sl_Ldigits⟩) (c_Ldigits : PySem.W.codeIn K cd_Ldigits "_law_digits" = true) (k_Ldigits : PySem.W.keepIn K (.ref f_Ldigits) = true)
    {f_Ldraw : Addr} {od_Ldraw an_Ldraw : Option Addr} {sl_Ldraw : Array (Option Value)} {oc_Ldraw kV_Ldraw dc_Ldraw pm_Ldraw cd_Ldraw ct_Ldraw : Value}
    (a_Ldraw : PySem.W.nsIn K mainGlobals "_law_draw" = some (some (.ref f_Ldraw))) (l_Ldraw : K.lookup f_Ldraw = some ⟨oc_Ldraw, od_Ldraw, .func (PySem.W.fnOf "_law_draw" "_law_draw" (defArgs s_Ldraw) (defBody s_Ldraw) (defScope s_Ldraw) .none kV_Ldraw dc_Ldraw pm_Ldraw an_Ldraw cd_Ldraw ct_Ldraw), sl_Ldraw⟩) (c_Ldraw : PySem.W.codeIn K cd_Ldraw "_law_draw" = true) (k_Ldraw : PySem.W.keepIn K (.ref f_Ldraw) = true)
    {f_Lpick : Addr} {od_Lpick an_Lpick : Option Addr} {sl_Lpick : Array (Option Value)} {oc_Lpick kV_Lpick dc_Lpick pm_Lpick cd_Lpick ct_Lpick : Value}
    (a_Lpick : PySem.W.nsIn K mainGlobals "_law_pick" = some (some (.ref f_Lpick))) (l_Lpick : K.lookup f_Lpick = some ⟨oc_Lpick, od_Lpick, .func (PySem.W.fnOf "_law_pick" "_law_pick" (defArgs s_Lpick) (defBody s_Lpick) (defScope s_Lpick) .none kV_Lpick dc_Lpick pm_Lpick an_Lpick cd_Lpick ct_Lpick), sl_Lpick⟩) (c_Lpick : PySem.W.codeIn K cd_Lpick "_law_pick" = true) (k_Lpick : PySem.W.keepIn K (.ref f_Lpick) = true)
    {f_Lsigns : Addr} {od_Lsigns an_Lsigns : Option Addr} {sl_Lsigns : Array (Option Value)} {oc_Lsigns kV_Lsigns dc_Lsigns pm_Lsigns cd_Lsigns ct_Lsigns : Value}
    (a_Lsigns : PySem.W.nsIn K mainGlobals "_law_signs" = some (some (.ref f_Lsigns))) (l_Lsigns : K.lookup f_Lsigns = some ⟨oc_Lsigns, od_Lsigns, .func (PySem.W.fnOf "_law_signs" "_law_signs" (defArgs s_Lsigns) (defBody s_Lsigns) (defScope s_Lsigns) .none kV_Lsigns dc_Lsigns pm_Lsigns an_Lsigns cd_Lsigns ct_Lsigns), sl_Lsigns⟩) (c_Lsigns : PySem.W.codeIn K cd_Lsigns "_law_signs" = true) (k_Lsigns : PySem.W.keepIn K (.ref f_Lsigns) = true)
    {f_Lcheck : Addr} {od_Lcheck an_Lcheck : Option Addr} {sl_Lcheck : Array (Option Value)} {oc_Lcheck kV_Lcheck dc_Lcheck pm_Lcheck cd_Lcheck ct_Lcheck : Value}
    (a_Lcheck : PySem.W.nsIn K mainGlobals "_law_check" = some (some (.ref f_Lcheck))) (l_Lcheck : K.lookup f_Lcheck = some ⟨oc_Lcheck, od_Lcheck, .func (PySem.W.fnOf "_law_check" "_law_check" (defArgs s_Lcheck) (defBody s_Lcheck) (defScope s_Lcheck) .none kV_Lcheck dc_Lcheck pm_Lcheck an_Lcheck cd_Lcheck ct_Lcheck), sl_Lcheck⟩) (c_Lcheck : PySem.W.codeIn K cd_Lcheck "_law_check" = true) (k_Lcheck : PySem.W.keepIn K (.ref f_Lcheck) = true)
    {f_Lsealed : Addr} {od_Lsealed an_Lsealed : Option Addr} {sl_Lsealed : Array (Option Value)} {oc_Lsealed kV_Lsealed dc_Lsealed pm_Lsealed cd_Lsealed ct_Lsealed : Value}
    (a_Lsealed : PySem.W.nsIn K mainGlobals "_law_sealed" = some (some (.ref f_Lsealed))) (l_Lsealed : K.lookup f_Lsealed = some ⟨oc_Lsealed, od_Lsealed, .func (PySem.W.fnOf "_law_sealed" "_law_sealed" (defArgs s_Lsealed) (defBody s_Lsealed) (defScope s_Lsealed) .none kV_Lsealed dc_Lsealed pm_Lsealed an_Lsealed cd_Lsealed ct_Lsealed), sl_Lsealed⟩) (c_Lsealed : PySem.W.codeIn K cd_Lsealed "_law_sealed" = true) (k_Lsealed : PySem.W.keepIn K (.ref f_Lsealed) = true)
    {f_Lescaped : Addr} {od_Lescaped an_Lescaped : Option Addr} {sl_Lescaped : Array (Option Value)} {oc_Lescaped kV_Lescaped dc_Lescaped pm_Lescaped cd_Lescaped ct_Lescaped : Value}
    (a_Lescaped : PySem.W.nsIn K mainGlobals "_law_escaped" = some (some (.ref f_Lescaped))) (l_Lescaped : K.lookup f_Lescaped = some ⟨oc_Lescaped, od_Lescaped, .func (PySem.W.fnOf "_law_escaped" "_law_escaped" (defArgs s_Lescaped) (defBody s_Lescaped) (defScope s_Lescaped) .none kV_Lescaped dc_Lescaped pm_Lescaped an_Lescaped cd_Lescaped ct_Lescaped), sl_Lescaped⟩) (c_Lescaped : PySem.W.codeIn K cd_Lescaped "_law_escaped" = true) (k_Lescaped : PySem.W.keepIn K (.ref f_Lescaped) = true)
    {f_Lrecord : Addr} {od_Lrecord an_Lrecord : Option Addr} {sl_Lrecord : Array (Option Value)} {oc_Lrecord kV_Lrecord dc_Lrecord pm_Lrecord cd_Lrecord ct_Lrecord : Value}
    (a_Lrecord : PySem.W.nsIn K mainGlobals "_law_record" = some (some (.ref f_Lrecord))) (l_Lrecord : K.lookup f_Lrecord = some ⟨oc_Lrecord, od_Lrecord, .func (PySem.W.fnOf "_law_record" "_law_record" (defArgs s_Lrecord) (defBody s_Lrecord) (defScope s_Lrecord) .none kV_Lrecord dc_Lrecord pm_Lrecord an_Lrecord cd_Lrecord ct_Lrecord), sl_Lrecord⟩) (c_Lrecord : PySem.W.codeIn K cd_Lrecord "_law_record" = true) (k_Lrecord : PySem.W.keepIn K (.ref f_Lrecord) = true)
    {f_Lsame : Addr} {od_Lsame an_Lsame : Option Addr} {sl_Lsame : Array (Option Value)} {oc_Lsame kV_Lsame dc_Lsame pm_Lsame cd_Lsame ct_Lsame : Value}
    (a_Lsame : PySem.W.nsIn K mainGlobals "_law_same" = some (some (.ref f_Lsame))) (l_Lsame : K.lookup f_Lsame = some ⟨oc_Lsame, od_Lsame, .func (PySem.W.fnOf "_law_same" "_law_same" (defArgs s_Lsame) (defBody s_Lsame) (defScope s_Lsame) .none kV_Lsame dc_Lsame pm_Lsame an_Lsame cd_Lsame ct_Lsame), sl_Lsame⟩) (c_Lsame : PySem.W.codeIn K cd_Lsame "_law_same" = true) (k_Lsame : PySem.W.keepIn K (.ref f_Lsame) = true)
    {f_check_of : Addr} {od_check_of an_check_of : Option Addr} {sl_check_of : Array (Option Value)} {oc_check_of kV_check_of dc_check_of pm_check_of cd_check_of ct_check_of : Value}
    (a_check_of : PySem.W.nsIn K mainGlobals "check_of" = some (some (.ref f_check_of))) (l_check_of : K.lookup f_check_of = some ⟨oc_check_of, od_check_of, .func (PySem.W.fnOf "check_of" "check_of" (defArgs s_check_of) (defBody s_check_of) (defScope s_check_of) .none kV_check_of dc_check_of pm_check_of an_check_of cd_check_of ct_check_of), sl_check_of⟩) (c_check_of : PySem.W.codeIn K cd_check_of "check_of" = true) (k_check_of : PySem.W.keepIn K (.ref f_check_of) = true)
    {f_escaped : Addr} {od_escaped an_escaped : Option Addr} {sl_escaped : Array (Option Value)} {oc_escaped kV_escaped dc_escaped pm_escaped cd_escaped ct_escaped : Value}
    (a_escaped : PySem.W.nsIn K mainGlobals "escaped" = some (some (.ref f_escaped))) (l_escaped : K.lookup f_escaped = some ⟨oc_escaped, od_escaped, .func (PySem.W.fnOf "escaped" "escaped" (defArgs s_escaped) (defBody s_escaped) (defScope s_escaped) .none kV_escaped dc_escaped pm_escaped an_escaped cd_escaped ct_escaped), sl_escaped⟩) (c_escaped : PySem.W.codeIn K cd_escaped "escaped" = true) (k_escaped : PySem.W.keepIn K (.ref f_escaped) = true)
    {f_record : Addr} {od_record an_record : Option Addr} {sl_record : Array (Option Value)} {oc_record kV_record dc_record pm_record cd_record ct_record : Value}
    (a_record : PySem.W.nsIn K mainGlobals "record" = some (some (.ref f_record))) (l_record : K.lookup f_record = some ⟨oc_record, od_record, .func (PySem.W.fnOf "record" "record" (defArgs s_record) (defBody s_record) (defScope s_record) .none kV_record dc_record pm_record an_record cd_record ct_record), sl_record⟩) (c_record : PySem.W.codeIn K cd_record "record" = true) (k_record : PySem.W.keepIn K (.ref f_record) = true)
    {f_appended : Addr} {od_appended an_appended : Option Addr} {sl_appended : Array (Option Value)} {oc_appended kV_appended dc_appended pm_appended cd_appended ct_appended : Value}
    (a_appended : PySem.W.nsIn K mainGlobals "appended" = some (some (.ref f_appended))) (l_appended : K.lookup f_appended = some ⟨oc_appended, od_appended, .func (PySem.W.fnOf "appended" "appended" (defArgs s_appended) (defBody s_appended) (defScope s_appended) .none kV_appended dc_appended pm_appended an_appended cd_appended ct_appended), sl_appended⟩) (c_appended : PySem.W.codeIn K cd_appended "appended" = true) (k_appended : PySem.W.keepIn K (.ref f_appended) = true)
    {f_plain : Addr} {od_plain an_plain : Option Addr} {sl_plain : Array (Option Value)} {oc_plain kV_plain dc_plain pm_plain cd_plain ct_plain : Value}
    (a_plain : PySem.W.nsIn K mainGlobals "plain" = some (some (.ref f_plain))) (l_plain : K.lookup f_plain = some ⟨oc_plain, od_plain, .func (PySem.W.fnOf "plain" "plain" (defArgs s_plain) (defBody s_plain) (defScope s_plain) .none kV_plain dc_plain pm_plain an_plain cd_plain ct_plain), sl_plain⟩) (c_plain : PySem.W.codeIn K cd_plain "plain" = true) (k_plain : PySem.W.keepIn K (.ref f_plain) = true)
    {f_read_record : Addr} {od_read_record an_read_record : Option Addr} {sl_read_record : Array (Option Value)} {oc_read_record kV_read_record dc_read_record pm_read_record cd_read_record ct_read_record : Value}
    (a_read_record : PySem.W.nsIn K mainGlobals "read_record" = some (some (.ref f_read_record))) (l_read_record : K.lookup f_read_record = some ⟨oc_read_record, od_read_record, .func (PySem.W.fnOf "read_record" "read_record" (defArgs s_read_record) (defBody s_read_record) (defScope s_read_record) .none kV_read_record dc_read_record pm_read_record an_read_record cd_read_record ct_read_record), sl_read_record⟩) (c_read_record : PySem.W.codeIn K cd_read_record "read_record" = true) (k_read_record : PySem.W.keepIn K (.ref f_read_record) = true)
    {f_Lplain : Addr} {od_Lplain an_Lplain : Option Addr} {sl_Lplain : Array (Option Value)} {oc_Lplain kV_Lplain dc_Lplain pm_Lplain cd_Lplain ct_Lplain : Value}
    (a_Lplain : PySem.W.nsIn K mainGlobals "_law_plain" = some (some (.ref f_Lplain))) (l_Lplain : K.lookup f_Lplain = some ⟨oc_Lplain, od_Lplain, .func (PySem.W.fnOf "_law_plain" "_law_plain" (defArgs s_Lplain) (defBody s_Lplain) (defScope s_Lplain) .none kV_Lplain dc_Lplain pm_Lplain an_Lplain cd_Lplain ct_Lplain), sl_Lplain⟩) (c_Lplain : PySem.W.codeIn K cd_Lplain "_law_plain" = true) (k_Lplain : PySem.W.keepIn K (.ref f_Lplain) = true)
    {f_Lspoilt : Addr} {od_Lspoilt an_Lspoilt : Option Addr} {sl_Lspoilt : Array (Option Value)} {oc_Lspoilt kV_Lspoilt dc_Lspoilt pm_Lspoilt cd_Lspoilt ct_Lspoilt : Value}
    (a_Lspoilt : PySem.W.nsIn K mainGlobals "_law_spoilt" = some (some (.ref f_Lspoilt))) (l_Lspoilt : K.lookup f_Lspoilt = some ⟨oc_Lspoilt, od_Lspoilt, .func (PySem.W.fnOf "_law_spoilt" "_law_spoilt" (defArgs s_Lspoilt) (defBody s_Lspoilt) (defScope s_Lspoilt) .none kV_Lspoilt dc_Lspoilt pm_Lspoilt an_Lspoilt cd_Lspoilt ct_Lspoilt), sl_Lspoilt⟩) (c_Lspoilt : PySem.W.codeIn K cd_Lspoilt "_law_spoilt" = true) (k_Lspoilt : PySem.W.keepIn K (.ref f_Lspoilt) = true)
    {f_Lread : Addr} {od_Lread an_Lread : Option Addr} {sl_Lread : Array (Option Value)} {oc_Lread kV_Lread dc_Lread pm_Lread cd_Lread ct_Lread : Value}
    (a_Lread : PySem.W.nsIn K mainGlobals "_law_read" = some (some (.ref f_Lread))) (l_Lread : K.lookup f_Lread = some ⟨oc_Lread, od_Lread, .func (PySem.W.fnOf "_law_read" "_law_read" (defArgs s_Lread) (defBody s_Lread) (defScope s_Lread) .none kV_Lread dc_Lread pm_Lread an_Lread cd_Lread ct_Lread), sl_Lread⟩) (c_Lread : PySem.W.codeIn K cd_Lread "_law_read" = true) (k_Lread : PySem.W.keepIn K (.ref f_Lread) = true)
    {f_law : Addr} {od_law an_law : Option Addr} {sl_law : Array (Option Value)} {oc_law kV_law dc_law pm_law cd_law ct_law : Value}
    (a_law : PySem.W.nsIn K mainGlobals "law" = some (some (.ref f_law))) (l_law : K.lookup f_law = some ⟨oc_law, od_law, .func (PySem.W.fnOf "law" "law" (defArgs s_law) (defBody s_law) (defScope s_law) .none kV_law dc_law pm_law an_law cd_law ct_law), sl_law⟩) (c_law : PySem.W.codeIn K cd_law "law" = true) (k_law : PySem.W.keepIn K (.ref f_law) = true)
    {t_FIGURES : Tok} (y_FIGURES : PySem.W.nsIn K mainGlobals "FIGURES" = some (some (.str "0123456789" t_FIGURES)))
    {t_MOST_CHECK : Tok} (y_MOST_CHECK : PySem.W.nsIn K mainGlobals "MOST_CHECK" = some (some (.int 9973 t_MOST_CHECK)))
    (z_all : PySem.W.nsIn K mainGlobals "all" = some none)
    (z_bool : PySem.W.nsIn K mainGlobals "bool" = some none)
    (z_int : PySem.W.nsIn K mainGlobals "int" = some none)
    (z_isinstance : PySem.W.nsIn K mainGlobals "isinstance" = some none)
    (z_len : PySem.W.nsIn K mainGlobals "len" = some none)
    (z_list : PySem.W.nsIn K mainGlobals "list" = some none)
    (z_ord : PySem.W.nsIn K mainGlobals "ord" = some none)
    (z_range : PySem.W.nsIn K mainGlobals "range" = some none)
    (z_repr : PySem.W.nsIn K mainGlobals "repr" = some none)
    (z_str : PySem.W.nsIn K mainGlobals "str" = some none)
    (z_tuple : PySem.W.nsIn K mainGlobals "tuple" = some none)
    : ∃ fd : FuncData, (∀ (s : Shared) (v : Value), BindsTo s fd ⟨[v], []⟩ [("script", v)]) ∧ ∀ base : Heap, K.In base → base.Ns mainGlobals mg → FnG l.prog w K mg base 32 fa fd ["script"] (SpP K w_law) := by
  have e := hfa.symm.trans (PySem.W.mg_of X G a_law)
  cases e
  refine ⟨PySem.W.fnOf "law" "law" (defArgs s_law) (defBody s_law) (defScope s_law) .none kV_law dc_law pm_law an_law cd_law ct_law, fun s v => .of_eq rfl, fun base _ _ => ?_⟩
  have m_FIGURES : mg "FIGURES" = some (.str "0123456789" t_FIGURES) := PySem.W.mg_of X G y_FIGURES
  have m_MOST_CHECK : mg "MOST_CHECK" = some (.int 9973 t_MOST_CHECK) := PySem.W.mg_of X G y_MOST_CHECK
  have m_all : mg "all" = none := PySem.W.mg_none_of X G z_all
  have m_bool : mg "bool" = none := PySem.W.mg_none_of X G z_bool
  have m_int : mg "int" = none := PySem.W.mg_none_of X G z_int
  have m_isinstance : mg "isinstance" = none := PySem.W.mg_none_of X G z_isinstance
  have m_len : mg "len" = none := PySem.W.mg_none_of X G z_len
  have m_list : mg "list" = none := PySem.W.mg_none_of X G z_list
  have m_ord : mg "ord" = none := PySem.W.mg_none_of X G z_ord
  have m_range : mg "range" = none := PySem.W.mg_none_of X G z_range
  have m_repr : mg "repr" = none := PySem.W.mg_none_of X G z_repr
  have m_str : mg "str" = none := PySem.W.mg_none_of X G z_str
  have m_tuple : mg "tuple" = none := PySem.W.mg_none_of X G z_tuple
  have F_Lcell := fun_mk (st := s_Lcell) l_Lcell c_Lcell k_Lcell
  have c_Lcell : CalP l.prog w K mg base 1 "_law_cell" w_Lcell := ⟨f_Lcell, _, _, ok_Lcell (n := 0)  F_Lcell m_len, PySem.W.mg_of X G a_Lcell, F_Lcell.kp, F_Lcell.binds (ps := ["script", "k"]) fun _ _ _ _ _ _ us hl => match us, hl with | [_, _], _ => rfl⟩
  have F_Ldigits := fun_mk (st := s_Ldigits) l_Ldigits c_Ldigits k_Ldigits
  have c_Ldigits : CalP l.prog w K mg base 2 "_law_digits" w_Ldigits := ⟨f_Ldigits, _, _, ok_Ldigits (n := 1)  F_Ldigits m_range m_int (c_Lcell.mono (by decide)), PySem.W.mg_of X G a_Ldigits, F_Ldigits.kp, F_Ldigits.binds (ps := ["script", "first", "last"]) fun _ _ _ _ _ _ us hl => match us, hl with | [_, _, _], _ => rfl⟩
  have F_Ldraw := fun_mk (st := s_Ldraw) l_Ldraw c_Ldraw k_Ldraw
  have c_Ldraw : CalB l.prog w K mg base 1 "_law_draw" w_Ldraw := ⟨f_Ldraw, _, _, ok_Ldraw (n := 0)  F_Ldraw m_len m_int, PySem.W.mg_of X G a_Ldraw, F_Ldraw.kp, F_Ldraw.binds (ps := ["box", "many"]) fun _ _ _ _ _ _ us hl => match us, hl with | [_, _], _ => rfl⟩
  have F_Lpick := fun_mk (st := s_Lpick) l_Lpick c_Lpick k_Lpick
  have c_Lpick : CalB l.prog w K mg base 2 "_law_pick" w_Lpick := ⟨f_Lpick, _, _, ok_Lpick (n := 1)  F_Lpick m_int m_len (c_Ldraw.mono (by decide)), PySem.W.mg_of X G a_Lpick, F_Lpick.kp, F_Lpick.binds (ps := ["box", "row"]) fun _ _ _ _ _ _ us hl => match us, hl with | [_, _], _ => rfl⟩
  have F_Lsigns := fun_mk (st := s_Lsigns) l_Lsigns c_Lsigns k_Lsigns
  have c_Lsigns : CalB l.prog w K mg base 3 "_law_signs" w_Lsigns := ⟨f_Lsigns, _, _, ok_Lsigns (n := 2)  F_Lsigns m_range (c_Lpick.mono (by decide)), PySem.W.mg_of X G a_Lsigns, F_Lsigns.kp, F_Lsigns.binds (ps := ["box"]) fun _ _ _ _ _ _ us hl => match us, hl with | [_], _ => rfl⟩
  have F_Lcheck := fun_mk (st := s_Lcheck) l_Lcheck c_Lcheck k_Lcheck
  have c_Lcheck : CalP l.prog w K mg base 1 "_law_check" w_Lcheck := ⟨f_Lcheck, _, _, ok_Lcheck (n := 0)  F_Lcheck m_int m_str m_ord, PySem.W.mg_of X G a_Lcheck, F_Lcheck.kp, F_Lcheck.binds (ps := ["text"]) fun _ _ _ _ _ _ us hl => match us, hl with | [_], _ => rfl⟩
  have F_Lsealed := fun_mk (st := s_Lsealed) l_Lsealed c_Lsealed k_Lsealed
  have c_Lsealed : CalP l.prog w K mg base 2 "_law_sealed" w_Lsealed := ⟨f_Lsealed, _, _, ok_Lsealed (n := 1)  F_Lsealed (c_Lcheck.mono (by decide)), PySem.W.mg_of X G a_Lsealed, F_Lsealed.kp, F_Lsealed.binds (ps := ["body"]) fun _ _ _ _ _ _ us hl => match us, hl with | [_], _ => rfl⟩
  have F_Lescaped := fun_mk (st := s_Lescaped) l_Lescaped c_Lescaped k_Lescaped
  have c_Lescaped : CalP l.prog w K mg base 1 "_law_escaped" w_Lescaped := ⟨f_Lescaped, _, _, ok_Lescaped (n := 0)  F_Lescaped , PySem.W.mg_of X G a_Lescaped, F_Lescaped.kp, F_Lescaped.binds (ps := ["text"]) fun _ _ _ _ _ _ us hl => match us, hl with | [_], _ => rfl⟩
  have F_Lrecord := fun_mk (st := s_Lrecord) l_Lrecord c_Lrecord k_Lrecord
  have c_Lrecord : CalP l.prog w K mg base 3 "_law_record" w_Lrecord := ⟨f_Lrecord, _, _, ok_Lrecord (n := 2)  F_Lrecord m_str (c_Lsealed.mono (by decide)) (c_Lescaped.mono (by decide)), PySem.W.mg_of X G a_Lrecord, F_Lrecord.kp, F_Lrecord.binds (ps := ["deed"]) fun _ _ _ _ _ _ us hl => match us, hl with | [_], _ => rfl⟩
  have F_Lsame := fun_mk (st := s_Lsame) l_Lsame c_Lsame k_Lsame
  have c_Lsame : CalP l.prog w K mg base 31 "_law_same" w_Lsame := by
    have go : ∀ m, CalP l.prog w K mg base (0 + m + 1) "_law_same" (v_Lsame m) := fun m => by
      induction m with
      | zero => exact ⟨f_Lsame, _, _, ok_Lsame (n := 0) F_Lsame m_isinstance m_str m_int m_range m_len m_tuple m_list m_repr m_bool (fun _ h => nomatch h), PySem.W.mg_of X G a_Lsame, F_Lsame.kp, F_Lsame.binds (ps := ["told", "due"]) fun _ _ _ _ _ _ us hl => match us, hl with | [_, _], _ => rfl⟩
      | succ m ih => exact ⟨f_Lsame, _, _, ok_Lsame (n := 0 + m + 1) F_Lsame m_isinstance m_str m_int m_range m_len m_tuple m_list m_repr m_bool (fun _ h => by cases h; exact ih), PySem.W.mg_of X G a_Lsame, F_Lsame.kp, F_Lsame.binds (ps := ["told", "due"]) fun _ _ _ _ _ _ us hl => match us, hl with | [_, _], _ => rfl⟩
    exact go 30
  have F_check_of := fun_mk (st := s_check_of) l_check_of c_check_of k_check_of
  have c_check_of : CalP l.prog w K mg base 1 "check_of" w_check_of := ⟨f_check_of, _, _, ok_check_of (n := 0)  F_check_of m_ord m_MOST_CHECK, PySem.W.mg_of X G a_check_of, F_check_of.kp, F_check_of.binds (ps := ["text"]) fun _ _ _ _ _ _ us hl => match us, hl with | [_], _ => rfl⟩
  have F_escaped := fun_mk (st := s_escaped) l_escaped c_escaped k_escaped
  have c_escaped : CalP l.prog w K mg base 1 "escaped" w_escaped := ⟨f_escaped, _, _, ok_escaped (n := 0)  F_escaped , PySem.W.mg_of X G a_escaped, F_escaped.kp, F_escaped.binds (ps := ["text"]) fun _ _ _ _ _ _ us hl => match us, hl with | [_], _ => rfl⟩
  have F_record := fun_mk (st := s_record) l_record c_record k_record
  have c_record : CalP l.prog w K mg base 2 "record" w_record := ⟨f_record, _, _, ok_record (n := 1)  F_record m_str (c_escaped.mono (by decide)) (c_check_of.mono (by decide)), PySem.W.mg_of X G a_record, F_record.kp, F_record.binds (ps := ["deed"]) fun _ _ _ _ _ _ us hl => match us, hl with | [_], _ => rfl⟩
  have F_appended := fun_mk (st := s_appended) l_appended c_appended k_appended
  have c_appended : CalP l.prog w K mg base 3 "appended" w_appended := ⟨f_appended, _, _, ok_appended (n := 2)  F_appended (c_record.mono (by decide)), PySem.W.mg_of X G a_appended, F_appended.kp, F_appended.binds (ps := ["text", "at", "deed"]) fun _ _ _ _ _ _ us hl => match us, hl with | [_, _, _], _ => rfl⟩
  have F_plain := fun_mk (st := s_plain) l_plain c_plain k_plain
  have c_plain : CalP l.prog w K mg base 1 "plain" w_plain := ⟨f_plain, _, _, ok_plain (n := 0)  F_plain m_len, PySem.W.mg_of X G a_plain, F_plain.kp, F_plain.binds (ps := ["text"]) fun _ _ _ _ _ _ us hl => match us, hl with | [_], _ => rfl⟩
  have F_read_record := fun_mk (st := s_read_record) l_read_record c_read_record k_read_record
  have c_read_record : CalP l.prog w K mg base 2 "read_record" w_read_record := ⟨f_read_record, _, _, ok_read_record (n := 1)  F_read_record m_len m_all m_int m_FIGURES (c_plain.mono (by decide)) (c_check_of.mono (by decide)), PySem.W.mg_of X G a_read_record, F_read_record.kp, F_read_record.binds (ps := ["text", "at"]) fun _ _ _ _ _ _ us hl => match us, hl with | [_, _], _ => rfl⟩
  have F_Lplain := fun_mk (st := s_Lplain) l_Lplain c_Lplain k_Lplain
  have c_Lplain : CalP l.prog w K mg base 2 "_law_plain" w_Lplain := ⟨f_Lplain, _, _, ok_Lplain (n := 1)  F_Lplain (c_Lescaped.mono (by decide)), PySem.W.mg_of X G a_Lplain, F_Lplain.kp, F_Lplain.binds (ps := ["text"]) fun _ _ _ _ _ _ us hl => match us, hl with | [_], _ => rfl⟩
  have F_Lspoilt := fun_mk (st := s_Lspoilt) l_Lspoilt c_Lspoilt k_Lspoilt
  have c_Lspoilt : CalB l.prog w K mg base 3 "_law_spoilt" w_Lspoilt := ⟨f_Lspoilt, _, _, ok_Lspoilt (n := 2)  F_Lspoilt m_len m_str (c_Ldraw.mono (by decide)) (c_Lsealed.mono (by decide)) (c_Lpick.mono (by decide)) (c_Lescaped.mono (by decide)) (c_Lcheck.mono (by decide)), PySem.W.mg_of X G a_Lspoilt, F_Lspoilt.kp, F_Lspoilt.binds (ps := ["box", "deed"]) fun _ _ _ _ _ _ us hl => match us, hl with | [_, _], _ => rfl⟩
  have F_Lread := fun_mk (st := s_Lread) l_Lread c_Lread k_Lread
  have c_Lread : CalP l.prog w K mg base 3 "_law_read" w_Lread := ⟨f_Lread, _, _, ok_Lread (n := 2)  F_Lread m_range m_len (c_Lplain.mono (by decide)) (c_Lcheck.mono (by decide)), PySem.W.mg_of X G a_Lread, F_Lread.kp, F_Lread.binds (ps := ["text", "at"]) fun _ _ _ _ _ _ us hl => match us, hl with | [_, _], _ => rfl⟩
  exact ok_law (n := 31) (fun_mk (st := s_law) l_law c_law k_law) m_range m_len (c_Ldigits.mono (by decide)) (c_Lsigns.mono (by decide)) (c_Lpick.mono (by decide)) (c_Lrecord.mono (by decide)) (c_Lsame.mono (by decide)) (c_check_of.mono (by decide)) (c_record.mono (by decide)) (c_appended.mono (by decide)) (c_read_record.mono (by decide)) (c_Lcheck.mono (by decide)) (c_escaped.mono (by decide)) (c_Lescaped.mono (by decide)) (c_plain.mono (by decide)) (c_Lplain.mono (by decide)) (c_Lspoilt.mono (by decide)) (c_Lread.mono (by decide)) (c_Ldraw.mono (by decide))
end

end K92
open PySem PySem.W PyProof.Rows
set_option maxHeartbeats 0 in
theorem PySem.Challenge.cw_turnwise_k92_records_as_lines_holds : PySem.Challenge.rw_turnwise_k92_records_as_lines.Holds := by
  w_on; o_law; k_head; (case hw => w_witness2)
  k_fill
  refine DL.walkG (l := PySem.Challenge.rw_turnwise_k92_records_as_lines) (n := 63) (k := 32) (x := "script") (sp := fun w => DL.SpP _ K92.w_law) rfl (by decide) rfl ⟨rfl, by decide, by decide⟩ (fun w h Y => PySem.W.kIn_of Y) ?F (fun w H a ns _ _ hS => K92.law_in w _ H a ns hS)
  case F =>
    intro w mg fa h KX G hmg
    refine' K92.all_mk KX G hmg ?a_Lcell ?l_Lcell ?c_Lcell ?k_Lcell ?a_Ldigits ?l_Ldigits ?c_Ldigits ?k_Ldigits ?a_Ldraw ?l_Ldraw ?c_Ldraw ?k_Ldraw ?a_Lpick ?l_Lpick ?c_Lpick ?k_Lpick ?a_Lsigns ?l_Lsigns ?c_Lsigns ?k_Lsigns ?a_Lcheck ?l_Lcheck ?c_Lcheck ?k_Lcheck ?a_Lsealed ?l_Lsealed ?c_Lsealed ?k_Lsealed ?a_Lescaped ?l_Lescaped ?c_Lescaped ?k_Lescaped ?a_Lrecord ?l_Lrecord ?c_Lrecord ?k_Lrecord ?a_Lsame ?l_Lsame ?c_Lsame ?k_Lsame ?a_check_of ?l_check_of ?c_check_of ?k_check_of ?a_escaped ?l_escaped ?c_escaped ?k_escaped ?a_record ?l_record ?c_record ?k_record ?a_appended ?l_appended ?c_appended ?k_appended ?a_plain ?l_plain ?c_plain ?k_plain ?a_read_record ?l_read_record ?c_read_record ?k_read_record ?a_Lplain ?l_Lplain ?c_Lplain ?k_Lplain ?a_Lspoilt ?l_Lspoilt ?c_Lspoilt ?k_Lspoilt ?a_Lread ?l_Lread ?c_Lread ?k_Lread ?a_law ?l_law ?c_law ?k_law ?y_FIGURES ?y_MOST_CHECK ?z_all ?z_bool ?z_int ?z_isinstance ?z_len ?z_list ?z_ord ?z_range ?z_repr ?z_str ?z_tuple
    all_goals first | k_is | skip
