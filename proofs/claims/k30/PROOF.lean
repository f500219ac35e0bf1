import PyProof.Rows.All
import Wide.All
import OpenK.AllK
import Wide.FinOn
import HandS.ForMost
import HandS.IsInst
import HandS.Gcd
import HandS.Flow
import HandS.SortInts
import HandS.Style
import HandS.TupAny
import HandS.Wide
import HandS.Zip
import KE.DataEq
import HandS.TupMul
import KE.KDictPairs
import HandS.More
import HandS.EndBits
import HandS.Star
import HandS.SetFor
import KE.GoesEnum
import KE.DataMinMax
import PySem.Challenge.RW_dicevalues_k30_sums_of_powers
section
set_option Elab.async false
set_option linter.all false
set_option maxRecDepth 100000
set_option maxHeartbeats 4000000
/-! DL1: data in an abstract heap; the state of a frame; judgements by mirrors. -/
namespace DL
open PySem L2

/-! ### data -/
def keyD : Key → PyData
  | .inl i => .int i
  | .inr x => .str x
/-- a tuple without a dict of its own, that stays -/
def TpK (K : PySem.W.Frag) (F : Hp) (a : Addr) (xs : List V) : Prop :=
  (∃ o, F a = some (.frz o (.tup xs)) ∧ o.dict = none) ∨
    ∃ (o : Obj) (its : Array Value) (n : Nat), K.lookup a = some o ∧ o.cls = .type "tuple" ∧ o.dict = none ∧ o.data = .seq its n ∧ its.size ≤ sizeLine ∧ Vals xs its.toList
theorem TpK.mono {K : PySem.W.Frag} {F F' : Hp} {a : Addr} {xs : List V} (e : Same F F') (h : TpK K F a xs) : TpK K F' a xs := by
  rcases h with ⟨o, h, n⟩ | h
  · exact .inl ⟨o, e _ _ h, n⟩
  · exact .inr h
theorem TpK.sq {K : PySem.W.Frag} {F : Hp} {a : Addr} {xs : List V} (h : TpK K F a xs) : SqT K F a xs := by
  rcases h with ⟨o, h, n⟩ | ⟨o, its, n, h1, h2, h3, h4, h5, h6⟩
  · exact .inl (.inr ⟨o, h⟩)
  · exact .inr ⟨o, its, n, h1, h2, h4, h5, h6⟩
mutual
/-- v holds the data d in what is frozen -/
inductive Rp (K : PySem.W.Frag) (F : Hp) : V → PyData → Prop
  | non : Rp K F .non .none
  | bl (b : Bool) : Rp K F (.bl b) (.bool b)
  | int (i : Int) : Rp K F (.int i) (.int i)
  | str (x : Str) : Rp K F (.str x) (.str x)
  | lst {a : Addr} {xs : List V} {ds : List PyData} : F a = some (.lst xs) → RpA K F xs ds → Rp K F (.ref a) (.list ds)
  | tup {a : Addr} {xs : List V} {ds : List PyData} : TpK K F a xs → RpA K F xs ds → Rp K F (.ref a) (.tuple ds)
  | dic {a : Addr} {o : Obj} {ks : List (Key × V)} {kvs : List (PyData × PyData)} : F a = some (.frz o (.dK ks)) → RpK K F ks kvs → Rp K F (.ref a) (.dict kvs)
inductive RpA (K : PySem.W.Frag) (F : Hp) : List V → List PyData → Prop
  | nil : RpA K F [] []
  | cons {v : V} {vs : List V} {d : PyData} {ds : List PyData} : Rp K F v d → RpA K F vs ds → RpA K F (v :: vs) (d :: ds)
inductive RpK (K : PySem.W.Frag) (F : Hp) : List (Key × V) → List (PyData × PyData) → Prop
  | nil : RpK K F [] []
  | cons {k : Key} {v : V} {ks : List (Key × V)} {d : PyData} {kvs : List (PyData × PyData)} : Rp K F v d → RpK K F ks kvs → RpK K F ((k, v) :: ks) ((keyD k, d) :: kvs)
end

theorem Same.sqT {K : PySem.W.Frag} {F F' : Hp} {a : Addr} {xs : List V} (e : Same F F') (h : SqT K F a xs) : SqT K F' a xs := by
  rcases h with (h | ⟨o, h⟩) | h
  · exact .inl (.inl (e _ _ h))
  · exact .inl (.inr ⟨o, e _ _ h⟩)
  · exact .inr h

section
variable {K : PySem.W.Frag} {F F' : Hp}
mutual
theorem Rp.mono (s : Same F F') : ∀ (d : PyData) (v : V), Rp K F v d → Rp K F' v d
  | .none, _, h => by cases h; exact .non
  | .bool b, _, h => by cases h; exact .bl b
  | .int i, _, h => by cases h; exact .int i
  | .str x, _, h => by cases h; exact .str x
  | .list ds, _, h => by
    cases h with
    | lst h1 h2 => exact .lst (s _ _ h1) (RpA.mono s ds _ h2)
  | .tuple ds, _, h => by
    cases h with
    | tup h1 h2 => exact .tup (TpK.mono s h1) (RpA.mono s ds _ h2)
  | .dict kvs, _, h => by
    cases h with
    | dic h1 h2 => exact .dic (s _ _ h1) (RpK.mono s kvs _ h2)
theorem RpA.mono (s : Same F F') : ∀ (ds : List PyData) (vs : List V), RpA K F vs ds → RpA K F' vs ds
  | [], _, h => by cases h; exact .nil
  | d :: ds, _, h => by
    cases h with
    | cons h1 h2 => exact .cons (Rp.mono s d _ h1) (RpA.mono s ds _ h2)
theorem RpK.mono (s : Same F F') : ∀ (kvs : List (PyData × PyData)) (ks : List (Key × V)), RpK K F ks kvs → RpK K F' ks kvs
  | [], _, h => by cases h; exact .nil
  | (k, d) :: kvs, _, h => by
    cases h with
    | cons h1 h2 => exact .cons (Rp.mono s d _ h1) (RpK.mono s kvs _ h2)
end

theorem RpA.length : ∀ {vs : List V} {ds : List PyData}, RpA K F vs ds → vs.length = ds.length
  | _, [], .nil => rfl
  | _, _ :: ds, .cons _ h => by rw [List.length_cons, List.length_cons, RpA.length h]
theorem RpA.get : ∀ {vs : List V} {ds : List PyData} {i : Nat} {d : PyData}, RpA K F vs ds → ds[i]? = some d → ∃ v, vs[i]? = some v ∧ Rp K F v d
  | _, [], i, d, _, e => by simp at e
  | _, x :: ds, 0, d, .cons r _, e => ⟨_, rfl, by rw [← Option.some.inj (show some x = some d from e)]; exact r⟩
  | _, _ :: ds, i + 1, d, .cons _ h, e => by
    obtain ⟨v, e1, e2⟩ := RpA.get (i := i) (d := d) h (by simpa using e)
    exact ⟨v, by simpa using e1, e2⟩
theorem RpA.at_ {vs : List V} {ds : List PyData} {i : Nat} {v : V} (h : RpA K F vs ds) (e : vs[i]? = some v) : ∃ d, ds[i]? = some d ∧ Rp K F v d := by
  have hl := h.length
  have hi : i < ds.length := by rw [← hl]; exact (List.getElem?_eq_some_iff.mp e).1
  obtain ⟨w, e1, e2⟩ := h.get (List.getElem?_eq_getElem hi)
  rw [e] at e1
  cases e1
  exact ⟨_, List.getElem?_eq_getElem hi, e2⟩
theorem RpA.append : ∀ {vs ws : List V} {ds es : List PyData}, RpA K F vs ds → RpA K F ws es → RpA K F (vs ++ ws) (ds ++ es)
  | _, _, [], _, .nil, h => h
  | _, _, _ :: ds, _, .cons r t, h => .cons r (RpA.append t h)
theorem RpA.take : ∀ {vs : List V} {ds : List PyData} (n : Nat), RpA K F vs ds → RpA K F (vs.take n) (ds.take n)
  | _, _, 0, _ => by simp only [List.take_zero]; exact .nil
  | _, [], n + 1, .nil => .nil
  | _, _ :: ds, n + 1, .cons r t => .cons r (RpA.take n t)
theorem RpA.drop : ∀ {vs : List V} {ds : List PyData} (n : Nat), RpA K F vs ds → RpA K F (vs.drop n) (ds.drop n)
  | _, _, 0, h => h
  | _, [], n + 1, .nil => .nil
  | _, _ :: ds, n + 1, .cons _ t => RpA.drop n t
theorem RpA.reverse : ∀ {vs : List V} {ds : List PyData}, RpA K F vs ds → RpA K F vs.reverse ds.reverse
  | _, [], .nil => .nil
  | _, _ :: ds, .cons r t => by
    rw [List.reverse_cons, List.reverse_cons]
    exact RpA.append (RpA.reverse t) (.cons r .nil)
theorem RpA.set {v : V} {d : PyData} (r : Rp K F v d) : ∀ {vs : List V} {ds : List PyData} (i : Nat), RpA K F vs ds → RpA K F (vs.set i v) (ds.set i d)
  | _, [], _, .nil => .nil
  | _, _ :: ds, 0, .cons _ t => .cons r t
  | _, _ :: ds, i + 1, .cons q t => .cons q (RpA.set r i t)
theorem RpA.ints : ∀ (ns : List Int), RpA K F (ns.map V.int) (ns.map PyData.int)
  | [] => .nil
  | n :: ns => .cons (.int n) (RpA.ints ns)
theorem RpA.of_ints : ∀ {vs : List V} {ns : List Int}, RpA K F vs (ns.map PyData.int) → vs = ns.map V.int
  | _, [], h => by cases h; rfl
  | _, n :: ns, h => by
    cases h with
    | cons r t => cases r; rw [RpA.of_ints t]; rfl
theorem RpA.of_bools : ∀ {vs : List V} {ns : List Bool}, RpA K F vs (ns.map PyData.bool) → vs = ns.map V.bl
  | _, [], h => by cases h; rfl
  | _, n :: ns, h => by
    cases h with
    | cons r t => cases r; rw [RpA.of_bools t]; rfl
end

/-! ### the pick source; what stands -/
structure Gh where
  a : Addr
  l : Addr
structure Pk where
  cells : List Int
  left : Int
  mixed : Int
  turn : Int
structure Pk.ok (st : Pk) : Prop where
  cells : ∀ c ∈ st.cells, 0 ≤ c
  len : st.cells.length ≤ 63
  left : 0 ≤ st.left
def srcKv (g : Gh) (st : Pk) : List (Key × V) := [(.inr "cells", .ref g.l), (.inr "left", .int st.left), (.inr "mixed", .int st.mixed), (.inr "turn", .int st.turn)]

/-- from the one heap to the other: what is frozen stays, what is newly frozen is new, all stays but the source -/
structure Stp (g : Gh) (H F H' F' : Hp) : Prop where
  fr : Same F F'
  nw : ∀ b o, F' b = some o → F b = some o ∨ H b = none
  kp : ∀ b o, H b = some o → b ≠ g.a → b ≠ g.l → H' b = some o
  gr : ∀ b, H' b = none → H b = none
theorem Stp.refl (g : Gh) (H F : Hp) : Stp g H F H F := ⟨fun _ _ h => h, fun _ _ h => .inl h, fun _ _ h _ _ => h, fun _ h => h⟩
theorem Stp.trans {g : Gh} {H F H1 F1 H2 F2 : Hp} (a : Stp g H F H1 F1) (b : Stp g H1 F1 H2 F2) : Stp g H F H2 F2 where
  fr := a.fr.trans b.fr
  nw := fun c o h => by
    rcases b.nw c o h with h | h
    · exact a.nw c o h
    · exact .inr (a.gr c h)
  kp := fun c o h n1 n2 => b.kp c o (a.kp c o h n1 n2) n1 n2
  gr := fun c h => a.gr c (b.gr c h)

/-- a new frozen object; a new one that is not frozen -/
theorem Stp.newF {g : Gh} {H F : Hp} {p : Addr} {o : HO} (hp : H p = none) (sub : Same F H) : Stp g H F (upd H p o) (upd F p o) where
  fr := fun b u h => by rw [upd_ne (ne_of_none (sub _ _ h) hp)]; exact h
  nw := fun b u h => by
    by_cases e : b = p
    · subst e; exact .inr hp
    · rw [upd_ne e] at h; exact .inl h
  kp := fun b u h _ _ => by rw [upd_ne (ne_of_none h hp)]; exact h
  gr := fun b h => by
    by_cases e : b = p
    · subst e; exact hp
    · rw [upd_ne e] at h; exact h
theorem Stp.newH {g : Gh} {H F : Hp} {p : Addr} {o : HO} (hp : H p = none) : Stp g H F (upd H p o) F where
  fr := fun b u h => h
  nw := fun b u h => .inl h
  kp := fun b u h _ _ => by rw [upd_ne (ne_of_none h hp)]; exact h
  gr := fun b h => by
    by_cases e : b = p
    · subst e; exact hp
    · rw [upd_ne e] at h; exact h

structure Bs (g : Gh) (H0 F0 H F : Hp) (st : Pk) : Prop where
  sub : Same F H
  sa : H g.a = some (.dK (srcKv g st))
  sl : H g.l = some (.lst (st.cells.map V.int))
  na : F g.a = none
  nl : F g.l = none
  ne : g.a ≠ g.l
  ok : st.ok
  stp : Stp g H0 F0 H F

section
variable {g : Gh} {H0 F0 H F H' F' : Hp} {st st' : Pk}
theorem Bs.base (b : Bs g H0 F0 H F st) : Bs g H F H F st := ⟨b.sub, b.sa, b.sl, b.na, b.nl, b.ne, b.ok, .refl _ _ _⟩
theorem Bs.trans (b : Bs g H0 F0 H F st) (c : Bs g H F H' F' st') : Bs g H0 F0 H' F' st' := ⟨c.sub, c.sa, c.sl, c.na, c.nl, c.ne, c.ok, b.stp.trans c.stp⟩
theorem Bs.newF {p : Addr} {o : HO} (b : Bs g H0 F0 H F st) (hp : H p = none) : Bs g H0 F0 (upd H p o) (upd F p o) st where
  sub := fun c u h => by
    by_cases e : c = p
    · subst e; rw [upd_same] at h; rw [upd_same]; exact h
    · rw [upd_ne e] at h; rw [upd_ne e]; exact b.sub c u h
  sa := by rw [upd_ne (ne_of_none b.sa hp)]; exact b.sa
  sl := by rw [upd_ne (ne_of_none b.sl hp)]; exact b.sl
  na := by rw [upd_ne (ne_of_none b.sa hp)]; exact b.na
  nl := by rw [upd_ne (ne_of_none b.sl hp)]; exact b.nl
  ne := b.ne
  ok := b.ok
  stp := b.stp.trans (.newF hp b.sub)
theorem Bs.newH {p : Addr} {o : HO} (b : Bs g H0 F0 H F st) (hp : H p = none) : Bs g H0 F0 (upd H p o) F st where
  sub := fun c u h => by rw [upd_ne (ne_of_none (b.sub c u h) hp)]; exact b.sub c u h
  sa := by rw [upd_ne (ne_of_none b.sa hp)]; exact b.sa
  sl := by rw [upd_ne (ne_of_none b.sl hp)]; exact b.sl
  na := b.na
  nl := b.nl
  ne := b.ne
  ok := b.ok
  stp := b.stp.trans (.newH hp)
end

/-! ### a frame's slots -/
inductive Sl where
  | no
  | vl (d : PyData)
  | ol (ds : List PyData)
  | od (kvs : List (PyData × PyData))
  | src
  | scl
abbrev Ev := List Sl
def Sl.owned : Sl → Bool
  | .ol _ => true
  | .od _ => true
  | _ => false
def SlOk (K : PySem.W.Frag) (g : Gh) (H0 H F : Hp) : Sl → Option V → Prop
  | .no, _ => True
  | .vl d, x => ∃ v, x = some v ∧ Rp K F v d
  | .ol ds, x => ∃ a vs, x = some (.ref a) ∧ H a = some (.lst vs) ∧ F a = none ∧ a ≠ g.a ∧ a ≠ g.l ∧ H0 a = none ∧ RpA K F vs ds
  | .od kvs, x => ∃ a ks, x = some (.ref a) ∧ H a = some (.dK ks) ∧ F a = none ∧ a ≠ g.a ∧ a ≠ g.l ∧ H0 a = none ∧ RpK K F ks kvs
  | .src, x => x = some (.ref g.a)
  | .scl, x => x = some (.ref g.l)
structure Slots (K : PySem.W.Frag) (g : Gh) (H0 H F : Hp) (σ : St) (ρ : Ev) : Prop where
  len : σ.length = ρ.length
  at_ : ∀ (i : Nat) (s : Sl) (x : Option V), ρ[i]? = some s → σ[i]? = some x → SlOk K g H0 H F s x
  dis : ∀ (i j : Nat) (s t : Sl) (a : Addr), i ≠ j → ρ[i]? = some s → ρ[j]? = some t → s.owned = true → t.owned = true → σ[i]? = some (some (.ref a)) → σ[j]? = some (some (.ref a)) → False
section
variable {K : PySem.W.Frag} {g : Gh} {H0 F0 H F H' F' : Hp} {st st' : Pk} {σ : St} {ρ : Ev}
theorem Stp.own {a : Addr} {o : HO} (p : Stp g H F H' F') (n : F a = none) (h : H a = some o) : F' a = none := by
  cases q : F' a with
  | none => rfl
  | some u =>
    rcases p.nw a u q with z | z
    · rw [n] at z; cases z
    · rw [h] at z; cases z
theorem SlOk.step (p : Stp g H F H' F') : ∀ {s : Sl} {x : Option V}, SlOk K g H0 H F s x → SlOk K g H0 H' F' s x
  | .no, _, _ => True.intro
  | .vl d, _, ⟨v, e, r⟩ => ⟨v, e, Rp.mono p.fr _ _ r⟩
  | .ol ds, _, ⟨a, vs, e, h, n, n1, n2, n3, r⟩ => ⟨a, vs, e, p.kp _ _ h n1 n2, p.own n h, n1, n2, n3, RpA.mono p.fr _ _ r⟩
  | .od kvs, _, ⟨a, ks, e, h, n, n1, n2, n3, r⟩ => ⟨a, ks, e, p.kp _ _ h n1 n2, p.own n h, n1, n2, n3, RpK.mono p.fr _ _ r⟩
  | .src, _, h => h
  | .scl, _, h => h
theorem Slots.step (s : Slots K g H0 H F σ ρ) (p : Stp g H F H' F') : Slots K g H0 H' F' σ ρ := ⟨s.len, fun i t x e1 e2 => (s.at_ i t x e1 e2).step p, s.dis⟩
theorem Slots.get {i : Nat} {s : Sl} (h : Slots K g H0 H F σ ρ) (e : ρ[i]? = some s) : ∃ x, σ[i]? = some x ∧ SlOk K g H0 H F s x := by
  have hi : i < σ.length := by rw [h.len]; exact (List.getElem?_eq_some_iff.mp e).1
  exact ⟨_, List.getElem?_eq_getElem hi, h.at_ i s _ e (List.getElem?_eq_getElem hi)⟩
/-- a slot that owns nothing is stored -/
theorem Slots.put {i : Nat} {s : Sl} {v : V} (h : Slots K g H0 H F σ ρ) (hs : SlOk K g H0 H F s (some v)) (ho : s.owned = false) : Slots K g H0 H F (σ.set i (some v)) (ρ.set i s) where
  len := by rw [List.length_set, List.length_set]; exact h.len
  at_ := fun j t x e1 e2 => by
    by_cases hj : j = i
    · subst hj
      have l1 : j < ρ.length := by have := (List.getElem?_eq_some_iff.mp e1).1; rwa [List.length_set] at this
      rw [List.getElem?_set_self l1] at e1
      rw [List.getElem?_set_self (by rw [h.len]; exact l1)] at e2
      cases e1; cases e2; exact hs
    · rw [List.getElem?_set_ne (Ne.symm hj)] at e1 e2
      exact h.at_ j t x e1 e2
  dis := fun j k t u a hjk e1 e2 o1 o2 e3 e4 => by
    by_cases hj : j = i
    · subst hj
      have l1 : j < ρ.length := by have := (List.getElem?_eq_some_iff.mp e1).1; rwa [List.length_set] at this
      rw [List.getElem?_set_self l1] at e1
      cases e1; rw [ho] at o1; cases o1
    · by_cases hk : k = i
      · subst hk
        have l1 : k < ρ.length := by have := (List.getElem?_eq_some_iff.mp e2).1; rwa [List.length_set] at this
        rw [List.getElem?_set_self l1] at e2
        cases e2; rw [ho] at o2; cases o2
      · rw [List.getElem?_set_ne (Ne.symm hj)] at e1 e3
        rw [List.getElem?_set_ne (Ne.symm hk)] at e2 e4
        exact h.dis j k t u a hjk e1 e2 o1 o2 e3 e4
/-- an owned slot is stored: its address stands in no other owned slot -/
theorem Slots.putO {i : Nat} {s : Sl} {p : Addr} (h : Slots K g H0 H F σ ρ) (hs : SlOk K g H0 H F s (some (.ref p)))
    (hn : ∀ (j : Nat) (t : Sl), j ≠ i → ρ[j]? = some t → t.owned = true → σ[j]? = some (some (.ref p)) → False) : Slots K g H0 H F (σ.set i (some (.ref p))) (ρ.set i s) where
  len := by rw [List.length_set, List.length_set]; exact h.len
  at_ := fun j t x e1 e2 => by
    by_cases hj : j = i
    · subst hj
      have l1 : j < ρ.length := by have := (List.getElem?_eq_some_iff.mp e1).1; rwa [List.length_set] at this
      rw [List.getElem?_set_self l1] at e1
      rw [List.getElem?_set_self (by rw [h.len]; exact l1)] at e2
      cases e1; cases e2; exact hs
    · rw [List.getElem?_set_ne (Ne.symm hj)] at e1 e2
      exact h.at_ j t x e1 e2
  dis := fun j k t u a hjk e1 e2 o1 o2 e3 e4 => by
    by_cases hj : j = i
    · subst hj
      have l1 : j < ρ.length := by have := (List.getElem?_eq_some_iff.mp e1).1; rwa [List.length_set] at this
      rw [List.getElem?_set_self (by rw [h.len]; exact l1)] at e3
      cases e3
      rw [List.getElem?_set_ne hjk] at e2 e4
      exact hn k u (Ne.symm hjk) e2 o2 e4
    · by_cases hk : k = i
      · subst hk
        have l1 : k < ρ.length := by have := (List.getElem?_eq_some_iff.mp e2).1; rwa [List.length_set] at this
        rw [List.getElem?_set_self (by rw [h.len]; exact l1)] at e4
        cases e4
        rw [List.getElem?_set_ne (Ne.symm hjk)] at e1 e3
        exact hn j t hjk e1 o1 e3
      · rw [List.getElem?_set_ne (Ne.symm hj)] at e1 e3
        rw [List.getElem?_set_ne (Ne.symm hk)] at e2 e4
        exact h.dis j k t u a hjk e1 e2 o1 o2 e3 e4
/-- .. of a new object -/
theorem Slots.fresh {i : Nat} {s : Sl} {p : Addr} (h : Slots K g H0 H F σ ρ) (hs : SlOk K g H0 H' F' s (some (.ref p))) (st : Stp g H F H' F') (hp : H p = none) : Slots K g H0 H' F' (σ.set i (some (.ref p))) (ρ.set i s) := by
  refine (h.step st).putO hs fun j t hj e o e2 => ?_
  have q := h.at_ j t _ e e2
  cases t with
  | no => cases o
  | vl d => cases o
  | src => cases o
  | scl => cases o
  | ol ds =>
    obtain ⟨a, vs, e3, e4, _⟩ := q
    cases e3; rw [hp] at e4; cases e4
  | od ds =>
    obtain ⟨a, vs, e3, e4, _⟩ := q
    cases e3; rw [hp] at e4; cases e4
/-- an owned object is frozen -/
theorem SlOk.freeze {s : Sl} {x : Option V} {a : Addr} {o : HO} (hs : SlOk K g H0 H F s x) (ha : F a = none) (hne : s.owned = true → x ≠ some (.ref a)) : SlOk K g H0 (upd H a o) (upd F a o) s x := by
  have sm : Same F (upd F a o) := fun b u h => by rw [upd_ne (ne_of_none h ha)]; exact h
  cases s with
  | no => exact True.intro
  | vl d => obtain ⟨v, e, r⟩ := hs; exact ⟨v, e, Rp.mono sm _ _ r⟩
  | src => exact hs
  | scl => exact hs
  | ol ds =>
    obtain ⟨b, vs, e, h, n, n1, n2, n3, r⟩ := hs
    have hb : b ≠ a := fun z => hne rfl (by rw [e, z])
    exact ⟨b, vs, e, by rw [upd_ne hb]; exact h, by rw [upd_ne hb]; exact n, n1, n2, n3, RpA.mono sm _ _ r⟩
  | od ds =>
    obtain ⟨b, vs, e, h, n, n1, n2, n3, r⟩ := hs
    have hb : b ≠ a := fun z => hne rfl (by rw [e, z])
    exact ⟨b, vs, e, by rw [upd_ne hb]; exact h, by rw [upd_ne hb]; exact n, n1, n2, n3, RpK.mono sm _ _ r⟩
end
end DL
end

section
set_option Elab.async false
set_option linter.all false
set_option maxRecDepth 100000
set_option maxHeartbeats 4000000
/-! DL2: judgements of expressions by mirrors; names, constants, operators, displays. -/
namespace DL
open PySem L2

abbrev M := StateT Pk Option
def lft {α : Type} (o : Option α) : M α := fun st => o.map (fun a => (a, st))
theorem bnd {α β : Type} {x : M α} {f : α → M β} {st : Pk} {r : β × Pk} (h : (x >>= f) st = some r) : ∃ a st', x st = some (a, st') ∧ f a st' = some r := by
  have h' : (x st).bind (fun p => f p.1 p.2) = some r := h
  obtain ⟨p, h1, h2⟩ := Option.bind_eq_some_iff.mp h'
  exact ⟨p.1, p.2, h1, h2⟩
theorem lfts {α : Type} {o : Option α} {st : Pk} {a : α} {st' : Pk} (h : lft o st = some (a, st')) : o = some a ∧ st' = st := by
  cases o with
  | none => cases h
  | some b =>
    have h' : some (b, st) = some (a, st') := h
    cases h'
    exact ⟨rfl, rfl⟩
theorem purs {α : Type} {x a : α} {st st' : Pk} (h : (pure x : M α) st = some (a, st')) : x = a ∧ st' = st := by
  have h' : some (x, st) = some (a, st') := h
  cases h'
  exact ⟨rfl, rfl⟩

/-! ### values that may be read: frozen, or a list or a dict at hand -/
def RpB (K : PySem.W.Frag) (g : Gh) (H F : Hp) (v : V) (d : PyData) : Prop :=
  Rp K F v d ∨ (∃ a vs ds, v = .ref a ∧ d = .list ds ∧ H a = some (.lst vs) ∧ F a = none ∧ a ≠ g.a ∧ a ≠ g.l ∧ RpA K F vs ds) ∨
    (∃ a ks kvs, v = .ref a ∧ d = .dict kvs ∧ H a = some (.dK ks) ∧ F a = none ∧ a ≠ g.a ∧ a ≠ g.l ∧ RpK K F ks kvs)
section
variable {K : PySem.W.Frag} {g : Gh} {H F H' F' : Hp} {v : V} {d : PyData}
theorem RpB.step (r : RpB K g H F v d) (p : Stp g H F H' F') : RpB K g H' F' v d := by
  rcases r with r | ⟨a, vs, ds, e1, e2, h, n, n1, n2, r⟩ | ⟨a, ks, kvs, e1, e2, h, n, n1, n2, r⟩
  · exact .inl (Rp.mono p.fr _ _ r)
  · exact .inr (.inl ⟨a, vs, ds, e1, e2, p.kp _ _ h n1 n2, p.own n h, n1, n2, RpA.mono p.fr _ _ r⟩)
  · exact .inr (.inr ⟨a, ks, kvs, e1, e2, p.kp _ _ h n1 n2, p.own n h, n1, n2, RpK.mono p.fr _ _ r⟩)
theorem RpB.list {ds : List PyData} (sub : Same F H) (r : RpB K g H F v (.list ds)) : ∃ a vs, v = .ref a ∧ H a = some (.lst vs) ∧ RpA K F vs ds := by
  rcases r with r | ⟨a, vs, ds', e1, e2, h, n, n1, n2, r⟩ | ⟨a, ks, kvs, e1, e2, h, n, n1, n2, r⟩
  · cases r with
    | lst h1 h2 => exact ⟨_, _, rfl, sub _ _ h1, h2⟩
  · cases e2; exact ⟨a, vs, e1, h, r⟩
  · cases e2
theorem RpB.dict {kvs : List (PyData × PyData)} (sub : Same F H) (r : RpB K g H F v (.dict kvs)) : ∃ a ks, v = .ref a ∧ Rd H a (.dK ks) ∧ RpK K F ks kvs := by
  rcases r with r | ⟨a, vs, ds', e1, e2, h, n, n1, n2, r⟩ | ⟨a, ks, kvs', e1, e2, h, n, n1, n2, r⟩
  · cases r with
    | dic h1 h2 => exact ⟨_, _, rfl, .inr ⟨_, sub _ _ h1⟩, h2⟩
  · cases e2
  · cases e2; exact ⟨a, ks, e1, .inl h, r⟩
theorem RpB.tuple {ds : List PyData} (sub : Same F H) (r : RpB K g H F v (.tuple ds)) : ∃ a vs, v = .ref a ∧ TpK K F a vs ∧ SqT K H a vs ∧ RpA K F vs ds := by
  rcases r with r | ⟨a, vs, ds', e1, e2, h, n, n1, n2, r⟩ | ⟨a, ks, kvs, e1, e2, h, n, n1, n2, r⟩
  · cases r with
    | tup h1 h2 => exact ⟨_, _, rfl, h1, Same.sqT sub h1.sq, h2⟩
  · cases e2
  · cases e2
theorem RpB.int {i : Int} (r : RpB K g H F v (.int i)) : v = .int i := by
  rcases r with r | ⟨a, vs, ds', e1, e2, h, n, n1, n2, r⟩ | ⟨a, ks, kvs, e1, e2, h, n, n1, n2, r⟩
  · cases r; rfl
  · cases e2
  · cases e2
theorem RpB.bool {i : Bool} (r : RpB K g H F v (.bool i)) : v = .bl i := by
  rcases r with r | ⟨a, vs, ds', e1, e2, h, n, n1, n2, r⟩ | ⟨a, ks, kvs, e1, e2, h, n, n1, n2, r⟩
  · cases r; rfl
  · cases e2
  · cases e2
theorem RpB.str {i : Str} (r : RpB K g H F v (.str i)) : v = .str i := by
  rcases r with r | ⟨a, vs, ds', e1, e2, h, n, n1, n2, r⟩ | ⟨a, ks, kvs, e1, e2, h, n, n1, n2, r⟩
  · cases r; rfl
  · cases e2
  · cases e2
theorem RpB.none (r : RpB K g H F v .none) : v = .non := by
  rcases r with r | ⟨a, vs, ds', e1, e2, h, n, n1, n2, r⟩ | ⟨a, ks, kvs, e1, e2, h, n, n1, n2, r⟩
  · cases r; rfl
  · cases e2
  · cases e2
end

/-! ### the judgements -/
/-- an expression does what m says: its value is frozen data -/
def tE (K : PySem.W.Frag) (g : Gh) (H0 F0 : Hp) (m : Ev → M PyData) : TE := fun σ H Q => ∃ ρ F st d st', Bs g H0 F0 H F st ∧ Slots K g H0 H F σ ρ ∧ m ρ st = some (d, st') ∧
  ∀ v H' F', Bs g H F H' F' st' → Rp K F' v d → Q v H'
/-- .. its value may be read -/
def tB (K : PySem.W.Frag) (g : Gh) (H0 F0 : Hp) (m : Ev → M PyData) : TE := fun σ H Q => ∃ ρ F st d st', Bs g H0 F0 H F st ∧ Slots K g H0 H F σ ρ ∧ m ρ st = some (d, st') ∧
  ∀ v H' F', Bs g H F H' F' st' → RpB K g H' F' v d → Q v H'
/-- .. its value is a new list that nobody else holds -/
def tF (K : PySem.W.Frag) (g : Gh) (H0 F0 : Hp) (m : Ev → M (List PyData)) : TE := fun σ H Q => ∃ ρ F st ds st', Bs g H0 F0 H F st ∧ Slots K g H0 H F σ ρ ∧ m ρ st = some (ds, st') ∧
  ∀ a vs H' F', Bs g H F H' F' st' → H a = none → H' a = some (.lst vs) → F' a = none → RpA K F' vs ds → Q (.ref a) H'
/-- .. a new dict -/
def tD (K : PySem.W.Frag) (g : Gh) (H0 F0 : Hp) (m : Ev → M (List (PyData × PyData))) : TE := fun σ H Q => ∃ ρ F st ds st', Bs g H0 F0 H F st ∧ Slots K g H0 H F σ ρ ∧ m ρ st = some (ds, st') ∧
  ∀ a ks H' F', Bs g H F H' F' st' → H a = none → H' a = some (.dK ks) → F' a = none → RpK K F' ks ds → Q (.ref a) H'
def tT (K : PySem.W.Frag) (g : Gh) (H0 F0 : Hp) (m : Ev → M Bool) : TT := fun σ H Q => ∃ ρ F st d st', Bs g H0 F0 H F st ∧ Slots K g H0 H F σ ρ ∧ m ρ st = some (d, st') ∧
  ∀ H' F', Bs g H F H' F' st' → Q d H'
def tA (K : PySem.W.Frag) (g : Gh) (H0 F0 : Hp) (m : Ev → M (List PyData)) : TA := fun σ H Q => ∃ ρ F st d st', Bs g H0 F0 H F st ∧ Slots K g H0 H F σ ρ ∧ m ρ st = some (d, st') ∧
  ∀ vs H' F', Bs g H F H' F' st' → RpA K F' vs d → Q vs H'
/-- arguments for a built-in: each may be read -/
def RpBs (K : PySem.W.Frag) (g : Gh) (H F : Hp) : List V → List PyData → Prop := Paired (RpB K g H F)
theorem RpBs.step {K : PySem.W.Frag} {g : Gh} {H F H' F' : Hp} : ∀ {vs : List V} {ds : List PyData}, RpBs K g H F vs ds → Stp g H F H' F' → RpBs K g H' F' vs ds
  | _, _, .nil, _ => .nil
  | _, _, .cons r t, p => .cons (r.step p) (RpBs.step t p)
def tAB (K : PySem.W.Frag) (g : Gh) (H0 F0 : Hp) (m : Ev → M (List PyData)) : TA := fun σ H Q => ∃ ρ F st d st', Bs g H0 F0 H F st ∧ Slots K g H0 H F σ ρ ∧ m ρ st = some (d, st') ∧
  ∀ vs H' F', Bs g H F H' F' st' → RpBs K g H' F' vs d → Q vs H'

def SE (X : Cx) (e : Expr) (m : Ev → M PyData) : Prop := ∀ g H0 F0, PE X e (tE X.K g H0 F0 m)
def SB (X : Cx) (e : Expr) (m : Ev → M PyData) : Prop := ∀ g H0 F0, PE X e (tB X.K g H0 F0 m)
def SF (X : Cx) (e : Expr) (m : Ev → M (List PyData)) : Prop := ∀ g H0 F0, PE X e (tF X.K g H0 F0 m)
def SD (X : Cx) (e : Expr) (m : Ev → M (List (PyData × PyData))) : Prop := ∀ g H0 F0, PE X e (tD X.K g H0 F0 m)
def STs (X : Cx) (e : Expr) (m : Ev → M Bool) : Prop := ∀ g H0 F0, PT X e (tT X.K g H0 F0 m)
def SW (X : Cx) (e : Expr) (m : Ev → M Bool) : Prop := ∀ g H0 F0, PW X e (tT X.K g H0 F0 m)
def SA (X : Cx) (es : List Expr) (m : Ev → M (List PyData)) : Prop := ∀ g H0 F0, PA X es (tA X.K g H0 F0 m)
def SAB (X : Cx) (es : List Expr) (m : Ev → M (List PyData)) : Prop := ∀ g H0 F0, PA X es (tAB X.K g H0 F0 m)

theorem _root_.L2.PE.imp {X : Cx} {e : Expr} {t t' : TE} (h : PE X e t) (hi : ∀ σ H Q, t' σ H Q → t σ H Q) : PE X e t' := ⟨fun pins s σ H Q I q => h.run pins s σ H Q I (hi _ _ _ q)⟩
theorem _root_.L2.PT.imp {X : Cx} {e : Expr} {t t' : TT} (h : PT X e t) (hi : ∀ σ H Q, t' σ H Q → t σ H Q) : PT X e t' := ⟨fun pins s σ H Q I q => h.run pins s σ H Q I (hi _ _ _ q)⟩
theorem _root_.L2.PW.imp {X : Cx} {e : Expr} {t t' : TT} (h : PW X e t) (hi : ∀ σ H Q, t' σ H Q → t σ H Q) : PW X e t' := ⟨fun wh pins s σ H Q I q => h.run wh pins s σ H Q I (hi _ _ _ q)⟩
theorem _root_.L2.PA.imp {X : Cx} {e : List Expr} {t t' : TA} (h : PA X e t) (hi : ∀ σ H Q, t' σ H Q → t σ H Q) : PA X e t' := ⟨fun pos pins s σ H Q I q => h.run pos pins s σ H Q I (hi _ _ _ q)⟩

section
variable {X : Cx} {e a b c : Expr} {es : List Expr} {m ma mb mc : Ev → M PyData} {pos : Pos}

theorem SE.toB (h : SE X e m) : SB X e m := fun g H0 F0 => (h g H0 F0).imp fun σ H Q ⟨ρ, F, st, d, st', b, s, e, q⟩ => ⟨ρ, F, st, d, st', b, s, e, fun v H' F' b' r => q v H' F' b' (.inl r)⟩
/-- a new list becomes data -/
def mFrz (m : Ev → M (List PyData)) : Ev → M PyData := fun ρ => do let ds ← m ρ; pure (.list ds)
def mFrzD (m : Ev → M (List (PyData × PyData))) : Ev → M PyData := fun ρ => do let ds ← m ρ; pure (.dict ds)
theorem Bs.frz {g : Gh} {H0 F0 H F H' F' : Hp} {st st' : Pk} {p : Addr} {o : HO} (b : Bs g H0 F0 H F st) (b' : Bs g H F H' F' st') (hp : H p = none) (ho : H' p = some o) (hn : F' p = none) : Bs g H F H' (upd F' p o) st' where
  sub := fun c u h => by
    by_cases e : c = p
    · subst e; rw [upd_same] at h; rw [ho]; exact h
    · rw [upd_ne e] at h; exact b'.sub c u h
  sa := b'.sa
  sl := b'.sl
  na := by rw [upd_ne (ne_of_none b.sa hp)]; exact b'.na
  nl := by rw [upd_ne (ne_of_none b.sl hp)]; exact b'.nl
  ne := b'.ne
  ok := b'.ok
  stp := ⟨fun c u h => by rw [upd_ne (ne_of_none (b'.stp.fr c u h) hn)]; exact b'.stp.fr c u h, fun c u h => by
    by_cases e : c = p
    · subst e; exact .inr hp
    · rw [upd_ne e] at h; exact b'.stp.nw c u h, b'.stp.kp, b'.stp.gr⟩
theorem Same.updN {F : Hp} {p : Addr} {o : HO} (hn : F p = none) : Same F (upd F p o) := fun c u h => by rw [upd_ne (ne_of_none h hn)]; exact h
theorem SF.toE {m : Ev → M (List PyData)} (h : SF X e m) : SE X e (mFrz m) := fun g H0 F0 => (h g H0 F0).imp fun σ H Q ⟨ρ, F, st, d, st', b, s, e, q⟩ => by
  obtain ⟨ds, st1, e1, e2⟩ := bnd e
  obtain ⟨rfl, rfl⟩ := purs e2
  exact ⟨ρ, F, st, ds, st', b, s, e1, fun a vs H' F' b' h1 h2 h3 r => q _ _ _ (b.frz b' h1 h2 h3) (.lst upd_same (RpA.mono (Same.updN h3) _ _ r))⟩
/-- a dict just made is locked for good -/
theorem pe_lockZ {t : TE} (h : PE X e t) : PE X e (fun σ H Q => t σ H fun v H1 => ∃ a ks, v = .ref a ∧ H1 a = some (.dK ks) ∧ ∀ o, Q v (upd H1 a (.frz o (.dK ks)))) := ⟨fun pins s σ H Q I hq =>
  thn (h.run pins s σ H _ I hq) fun u s1 ⟨x, H1, I1, r, a, ks, ex, hd, q⟩ => by
    obtain ⟨od, I2⟩ := I1.lock hd True.intro
    exact ⟨x, _, I2, r, q od⟩⟩
theorem Bs.frzL {g : Gh} {H0 F0 H F H' F' : Hp} {st st' : Pk} {p : Addr} {o : HO} (b : Bs g H0 F0 H F st) (b' : Bs g H F H' F' st') (hp : H p = none) (hn : F' p = none) : Bs g H F (upd H' p o) (upd F' p o) st' where
  sub := fun c u h => by
    by_cases e : c = p
    · subst e; rw [upd_same] at h ⊢; exact h
    · rw [upd_ne e] at h ⊢; exact b'.sub c u h
  sa := by rw [upd_ne (ne_of_none b.sa hp)]; exact b'.sa
  sl := by rw [upd_ne (ne_of_none b.sl hp)]; exact b'.sl
  na := by rw [upd_ne (ne_of_none b.sa hp)]; exact b'.na
  nl := by rw [upd_ne (ne_of_none b.sl hp)]; exact b'.nl
  ne := b'.ne
  ok := b'.ok
  stp := ⟨fun c u h => by rw [upd_ne (ne_of_none (b'.stp.fr c u h) hn)]; exact b'.stp.fr c u h, fun c u h => by
    by_cases e : c = p
    · subst e; exact .inr hp
    · rw [upd_ne e] at h; exact b'.stp.nw c u h, fun c u h n1 n2 => by rw [upd_ne (ne_of_none h hp)]; exact b'.stp.kp c u h n1 n2, fun c h => by
    by_cases e : c = p
    · subst e; exact hp
    · rw [upd_ne e] at h; exact b'.stp.gr c h⟩
theorem SD.toE {m : Ev → M (List (PyData × PyData))} (h : SD X e m) : SE X e (mFrzD m) := fun g H0 F0 => (pe_lockZ (h g H0 F0)).imp fun σ H Q ⟨ρ, F, st, d, st', b, s, e, q⟩ => by
  obtain ⟨ds, st1, e1, e2⟩ := bnd e
  obtain ⟨rfl, rfl⟩ := purs e2
  exact ⟨ρ, F, st, ds, st', b, s, e1, fun a vs H' F' b' h1 h2 h3 r => ⟨a, vs, rfl, h2, fun o => q _ _ _ (b.frzL b' h1 h3) (.dic upd_same (RpK.mono (Same.updN h3) _ _ r))⟩⟩
theorem SF.toB {m : Ev → M (List PyData)} (h : SF X e m) : SB X e (mFrz m) := h.toE.toB
theorem SD.toB {m : Ev → M (List (PyData × PyData))} (h : SD X e m) : SB X e (mFrzD m) := h.toE.toB

/-! ### names, constants -/
def rdV : Option Sl → Option PyData
  | some (.vl d) => some d
  | _ => none
def rdB : Option Sl → Option PyData
  | some (.vl d) => some d
  | some (.ol ds) => some (.list ds)
  | some (.od kvs) => some (.dict kvs)
  | _ => none
def mName (i : Nat) : Ev → M PyData := fun ρ => lft (rdV ρ[i]?)
def mOwn (i : Nat) : Ev → M PyData := fun ρ => lft (rdB ρ[i]?)
def mC (d : PyData) : Ev → M PyData := fun _ => pure d
theorem rdV_some {o : Option Sl} {d : PyData} (h : rdV o = some d) : o = some (.vl d) := by
  cases o with
  | none => cases h
  | some s => cases s <;> first | (cases h; rfl) | cases h
theorem se_name (i : Nat) {x : Str} {pos : Pos} (hN : X.N[i]? = some x := by rfl) (hv : Vis X.env.scope x := by first | exact Or.inl rfl | exact Or.inr (Or.inl rfl) | exact Or.inr (Or.inr rfl)) (hd : (x == ("__debug__" : Str)) = false := by decide)
    (hcd : (x == ("__classdict__" : Str)) = false := by decide) : SE X (.Name x pos) (mName i) := fun g H0 F0 => (pe_var hN hv hd hcd).imp fun σ H Q ⟨ρ, F, st, d, st', b, s, e, q⟩ => by
  obtain ⟨e0, rfl⟩ := lfts e
  obtain ⟨y, e1, v, rfl, r⟩ := s.get (rdV_some e0)
  exact ⟨v, e1, q v H F b.base r⟩
theorem sb_name (i : Nat) {x : Str} {pos : Pos} (hN : X.N[i]? = some x := by rfl) (hv : Vis X.env.scope x := by first | exact Or.inl rfl | exact Or.inr (Or.inl rfl) | exact Or.inr (Or.inr rfl)) (hd : (x == ("__debug__" : Str)) = false := by decide)
    (hcd : (x == ("__classdict__" : Str)) = false := by decide) : SB X (.Name x pos) (mOwn i) := fun g H0 F0 => (pe_var hN hv hd hcd).imp fun σ H Q ⟨ρ, F, st, d, st', b, s, e, q⟩ => by
  obtain ⟨e0, rfl⟩ := lfts e
  cases hρ : ρ[i]? with
  | none => rw [hρ] at e0; cases e0
  | some t =>
    rw [hρ] at e0
    obtain ⟨y, e1, k⟩ := s.get hρ
    cases t with
    | no => cases e0
    | src => cases e0
    | scl => cases e0
    | vl d' =>
      cases e0
      obtain ⟨v, rfl, r⟩ := k
      exact ⟨v, e1, q v H F b.base (.inl r)⟩
    | ol ds =>
      cases e0
      obtain ⟨a, vs, rfl, h, n, n1, n2, n3, r⟩ := k
      exact ⟨_, e1, q _ H F b.base (.inr (.inl ⟨a, vs, ds, rfl, rfl, h, n, n1, n2, r⟩))⟩
    | od ds =>
      cases e0
      obtain ⟨a, vs, rfl, h, n, n1, n2, n3, r⟩ := k
      exact ⟨_, e1, q _ H F b.base (.inr (.inr ⟨a, vs, ds, rfl, rfl, h, n, n1, n2, r⟩))⟩
theorem se_of {v : V} {d : PyData} (h : PE X e (tC v)) (hr : ∀ F, Rp X.K F v d) : SE X e (mC d) := fun g H0 F0 => h.imp fun σ H Q ⟨ρ, F, st, d, st', b, s, e, q⟩ => by
  obtain ⟨rfl, rfl⟩ := purs e
  exact q v H F b.base (hr F)
theorem se_int {i : Int} {j : Nat} : SE X (.Constant (.int i) j pos) (mC (.int i)) := se_of pe_int fun F => .int i
theorem se_bl {i : Bool} {j : Nat} : SE X (.Constant (.bool i) j pos) (mC (.bool i)) := se_of pe_bl fun F => .bl i
theorem se_non {j : Nat} : SE X (.Constant .none j pos) (mC .none) := se_of pe_non fun F => .non
theorem se_str {i : Str} {j : Nat} : SE X (.Constant (.str i) j pos) (mC (.str i)) := se_of pe_str fun F => .str i
/-- a module's constant: an int, or a tuple -/
theorem se_globI {x : Str} {i : Int} {t : Tok} (hg : Gl X x) (hm : X.mg x = some (.int i t)) (hd : (x == ("__debug__" : Str)) = false := by decide) : SE X (.Name x pos) (mC (.int i)) := se_of (pe_glob (v := .int i) hg hm ⟨t, rfl⟩ hd) fun F => .int i

/-! ### operators -/
def rD (K : PySem.W.Frag) (φ : PyData → PyData → Option PyData) : R2 := fun x y H Q => ∃ g F st d e r, Bs g H F H F st ∧ RpB K g H F x d ∧ RpB K g H F y e ∧ φ d e = some r ∧ ∀ v H' F', Bs g H F H' F' st → Rp K F' v r → Q v H'
def rDF (K : PySem.W.Frag) (φ : PyData → PyData → Option (List PyData)) : R2 := fun x y H Q => ∃ g F st d e r, Bs g H F H F st ∧ RpB K g H F x d ∧ RpB K g H F y e ∧ φ d e = some r ∧
  ∀ a vs H' F', Bs g H F H' F' st → H a = none → H' a = some (.lst vs) → F' a = none → RpA K F' vs r → Q (.ref a) H'
def OpD (X : Cx) (f : Value → Value → Sem Value) (φ : PyData → PyData → Option PyData) : Prop := OpR X f (rD X.K φ)
def OpF (X : Cx) (f : Value → Value → Sem Value) (φ : PyData → PyData → Option (List PyData)) : Prop := OpR X f (rDF X.K φ)
def mOp {α : Type} (φ : PyData → PyData → Option α) (ma mb : Ev → M PyData) : Ev → M α := fun ρ => do let x ← ma ρ; let y ← mb ρ; lft (φ x y)
/-- two readable operands -/
theorem two {K : PySem.W.Frag} {g : Gh} {H0 F0 : Hp} {α : Type} {φ : PyData → PyData → Option α} {σ : St} {H F : Hp} {ρ : Ev} {st st' : Pk} {r : α} {R : V → V → Hp → Prop} (b : Bs g H0 F0 H F st) (s : Slots K g H0 H F σ ρ) (e : mOp φ ma mb ρ st = some (r, st'))
    (h : ∀ x y v w H2 F2, φ x y = some r → Bs g H F H2 F2 st' → RpB K g H2 F2 v x → RpB K g H2 F2 w y → R v w H2) : tB K g H0 F0 ma σ H fun v H1 => tB K g H0 F0 mb σ H1 fun w H2 => R v w H2 := by
  obtain ⟨x, st1, e1, e⟩ := bnd e
  obtain ⟨y, st2, e2, e⟩ := bnd e
  obtain ⟨e3, rfl⟩ := lfts e
  exact ⟨ρ, F, st, x, st1, b, s, e1, fun v H1 F1 b1 r1 => ⟨ρ, F1, st1, y, st', b.trans b1, s.step b1.stp, e2, fun w H2 F2 b2 r2 => h x y v w H2 F2 e3 (b1.trans b2) (r1.step b2.stp) r2⟩⟩
theorem se_op {op : Operator} {φ : PyData → PyData → Option PyData} (ho : OpD X (binaryOp op) φ) (ha : SB X a ma) (hb : SB X b mb) : SE X (.BinOp a op b pos) (mOp φ ma mb) := fun g H0 F0 =>
  (pe_op ho (ha g H0 F0) (hb g H0 F0)).imp fun σ H Q ⟨ρ, F, st, d, st', b, s, e, q⟩ => two b s e fun x y v w H2 F2 e3 b2 r1 r2 => ⟨g, F2, st', x, y, d, b2.base, r1, r2, e3, fun u H3 F3 b3 r3 => q u H3 F3 (b2.trans b3) r3⟩
theorem none_of {g : Gh} {H F H' F' : Hp} {st : Pk} {p : Addr} (b : Bs g H F H' F' st) (h : H' p = none) : H p = none := b.stp.gr p h
theorem sf_op {op : Operator} {φ : PyData → PyData → Option (List PyData)} (ho : OpF X (binaryOp op) φ) (ha : SB X a ma) (hb : SB X b mb) : SF X (.BinOp a op b pos) (mOp φ ma mb) := fun g H0 F0 =>
  (pe_op ho (ha g H0 F0) (hb g H0 F0)).imp fun σ H Q ⟨ρ, F, st, d, st', b, s, e, q⟩ => two b s e fun x y v w H2 F2 e3 b2 r1 r2 => ⟨g, F2, st', x, y, d, b2.base, r1, r2, e3, fun u vs H3 F3 b3 h1 h2 h3 r3 => q u vs H3 F3 (b2.trans b3) (none_of b2 h1) h2 h3 r3⟩
/-- a comparison as a value, as a test -/
theorem se_cmp {op : CmpOp} {φ : PyData → PyData → Option PyData} (ho : OpD X (compareOp op) φ) (ha : SB X a ma) (hb : SB X b mb) (hm : behindInMarks op b = false := by rfl) : SE X (.Compare a [op] [b] pos) (mOp φ ma mb) := fun g H0 F0 =>
  (pe_cmpR ho (ha g H0 F0) (hb g H0 F0) hm).imp fun σ H Q ⟨ρ, F, st, d, st', b, s, e, q⟩ => two b s e fun x y v w H2 F2 e3 b2 r1 r2 => ⟨g, F2, st', x, y, d, b2.base, r1, r2, e3, fun u H3 F3 b3 r3 => q u H3 F3 (b2.trans b3) r3⟩
/-- an expression whose value is a bool, as a test's bool -/
def asB : PyData → Option Bool
  | .bool b => some b
  | _ => none
theorem asB_some {d : PyData} {k : Bool} (h : asB d = some k) : d = .bool k := by
  cases d <;> first | (cases h; rfl) | cases h
def mAsB (m : Ev → M PyData) : Ev → M Bool := fun ρ => do let d ← m ρ; lft (asB d)
theorem st_cmp {op : CmpOp} {φ : PyData → PyData → Option PyData} (ho : OpD X (compareOp op) φ) (ha : SB X a ma) (hb : SB X b mb) (hm : behindInMarks op b = false := by rfl) : STs X (.Compare a [op] [b] pos) (mAsB (mOp φ ma mb)) := fun g H0 F0 =>
  (pt_cmpR ho (ha g H0 F0) (hb g H0 F0) hm).imp fun σ H Q ⟨ρ, F, st, k, st', b, s, e, q⟩ => by
    obtain ⟨d, st1, e1, e⟩ := bnd e
    obtain ⟨e2, rfl⟩ := lfts e
    cases asB_some e2
    refine two b s e1 fun x y v w H2 F2 e3 b2 r1 r2 => ⟨g, F2, st', x, y, _, b2.base, r1, r2, e3, fun u H3 F3 b3 r3 => ?_⟩
    cases r3
    exact ⟨_, rfl, q H3 F3 (b2.trans b3)⟩
/-- a test of an expression whose value is a bool (a call, a name, a constant) -/
theorem st_val (h : SE X e m) (he : ∀ whole, isTrue e X.env whole = (do let v ← whole; standAt e.pos; holding [v] (truthy v)) := by intro _; rfl) : STs X e (mAsB m) := fun g H0 F0 =>
  (pt_val (h g H0 F0) he).imp fun σ H Q ⟨ρ, F, st, k, st', b, s, e, q⟩ => by
    obtain ⟨d, st1, e1, e⟩ := bnd e
    obtain ⟨e2, rfl⟩ := lfts e
    cases asB_some e2
    exact ⟨ρ, F, st, _, st', b, s, e1, fun v H' F' b' r => by cases r; exact ⟨_, rfl, q H' F' b'⟩⟩
def mNotT (m : Ev → M Bool) : Ev → M Bool := fun ρ => do let k ← m ρ; pure (!k)
def mAndT (ma mb : Ev → M Bool) : Ev → M Bool := fun ρ => do if (← ma ρ) then mb ρ else pure false
def mOrT (ma mb : Ev → M Bool) : Ev → M Bool := fun ρ => do if (← ma ρ) then pure true else mb ρ
theorem st_not {m : Ev → M Bool} (h : STs X e m) : STs X (.UnaryOp .Not e pos) (mNotT m) := fun g H0 F0 =>
  (pt_not (h g H0 F0)).imp fun σ H Q ⟨ρ, F, st, k, st', b, s, e, q⟩ => by
    obtain ⟨d, st1, e1, e⟩ := bnd e
    obtain ⟨rfl, rfl⟩ := purs e
    exact ⟨ρ, F, st, _, st', b, s, e1, fun H' F' b' => q H' F' b'⟩
theorem SW.t {m : Ev → M Bool} (h : SW X e m) : STs X e m := fun g H0 F0 => (h g H0 F0).pt
theorem sw_and1 {m : Ev → M Bool} (h : STs X a m) : SW X (.BoolOp .And [a] pos) m := fun g H0 F0 => pw_and1 (h g H0 F0)
theorem sw_or1 {m : Ev → M Bool} (h : STs X a m) : SW X (.BoolOp .Or [a] pos) m := fun g H0 F0 => pw_or1 (h g H0 F0)
theorem sw_and {rest : List Expr} {m1 m2 : Ev → M Bool} (ha : STs X a m1) (hb : SW X (.BoolOp .And (b :: rest) pos) m2) : SW X (.BoolOp .And (a :: b :: rest) pos) (mAndT m1 m2) := fun g H0 F0 =>
  (pw_and (ha g H0 F0) (hb g H0 F0)).imp fun σ H Q ⟨ρ, F, st, k, st', b, s, e, q⟩ => by
    obtain ⟨d, st1, e1, e⟩ := bnd e
    refine ⟨ρ, F, st, _, st1, b, s, e1, fun H' F' b' => ?_⟩
    cases d with
    | true => exact ⟨ρ, F', st1, _, st', b.trans b', s.step b'.stp, e, fun H2 F2 b2 => q H2 F2 (b'.trans b2)⟩
    | false =>
      obtain ⟨rfl, rfl⟩ := purs e
      exact q H' F' b'
theorem sw_or {rest : List Expr} {m1 m2 : Ev → M Bool} (ha : STs X a m1) (hb : SW X (.BoolOp .Or (b :: rest) pos) m2) : SW X (.BoolOp .Or (a :: b :: rest) pos) (mOrT m1 m2) := fun g H0 F0 =>
  (pw_or (ha g H0 F0) (hb g H0 F0)).imp fun σ H Q ⟨ρ, F, st, k, st', b, s, e, q⟩ => by
    obtain ⟨d, st1, e1, e⟩ := bnd e
    refine ⟨ρ, F, st, _, st1, b, s, e1, fun H' F' b' => ?_⟩
    cases d with
    | false => exact ⟨ρ, F', st1, _, st', b.trans b', s.step b'.stp, e, fun H2 F2 b2 => q H2 F2 (b'.trans b2)⟩
    | true =>
      obtain ⟨rfl, rfl⟩ := purs e
      exact q H' F' b'
/-! .. as values: bools -/
def mAndV (ma mb : Ev → M PyData) : Ev → M PyData := fun ρ => do let d ← ma ρ; let k ← lft (asB d); if k then mb ρ else pure (.bool false)
def mOrV (ma mb : Ev → M PyData) : Ev → M PyData := fun ρ => do let d ← ma ρ; let k ← lft (asB d); if k then pure (.bool true) else mb ρ
def mNotV (ma : Ev → M PyData) : Ev → M PyData := fun ρ => do let d ← ma ρ; let k ← lft (asB d); pure (.bool (!k))
theorem se_one {op : BoolOp} (h : SE X a m) : SE X (.BoolOp op [a] pos) m := fun g H0 F0 => pe_one (h g H0 F0)
theorem se_and {rest : List Expr} (ha : SE X a ma) (hb : SE X (.BoolOp .And (b :: rest) pos) mb) : SE X (.BoolOp .And (a :: b :: rest) pos) (mAndV ma mb) := fun g H0 F0 =>
  (pe_and (ha g H0 F0) (hb g H0 F0)).imp fun σ H Q ⟨ρ, F, st, k, st', b, s, e, q⟩ => by
    obtain ⟨d, st1, e1, e⟩ := bnd e
    obtain ⟨k1, st2, e2, e⟩ := bnd e
    obtain ⟨e4, rfl⟩ := lfts e2
    cases asB_some e4
    refine ⟨ρ, F, st, _, st2, b, s, e1, fun v H' F' b' r => ?_⟩
    cases r
    refine ⟨_, rfl, ?_⟩
    cases k1 with
    | true => exact ⟨ρ, F', st2, _, st', b.trans b', s.step b'.stp, e, fun v H2 F2 b2 r => q v H2 F2 (b'.trans b2) r⟩
    | false =>
      obtain ⟨rfl, rfl⟩ := purs e
      exact q _ H' F' b' (.bl false)
theorem se_or {rest : List Expr} (ha : SE X a ma) (hb : SE X (.BoolOp .Or (b :: rest) pos) mb) : SE X (.BoolOp .Or (a :: b :: rest) pos) (mOrV ma mb) := fun g H0 F0 =>
  (pe_or (ha g H0 F0) (hb g H0 F0)).imp fun σ H Q ⟨ρ, F, st, k, st', b, s, e, q⟩ => by
    obtain ⟨d, st1, e1, e⟩ := bnd e
    obtain ⟨k1, st2, e2, e⟩ := bnd e
    obtain ⟨e4, rfl⟩ := lfts e2
    cases asB_some e4
    refine ⟨ρ, F, st, _, st2, b, s, e1, fun v H' F' b' r => ?_⟩
    cases r
    refine ⟨_, rfl, ?_⟩
    cases k1 with
    | false => exact ⟨ρ, F', st2, _, st', b.trans b', s.step b'.stp, e, fun v H2 F2 b2 r => q v H2 F2 (b'.trans b2) r⟩
    | true =>
      obtain ⟨rfl, rfl⟩ := purs e
      exact q _ H' F' b' (.bl true)
theorem se_not (ha : SE X a ma) : SE X (.UnaryOp .Not a pos) (mNotV ma) := fun g H0 F0 =>
  (pe_not (ha g H0 F0)).imp fun σ H Q ⟨ρ, F, st, k, st', b, s, e, q⟩ => by
    obtain ⟨d, st1, e1, e⟩ := bnd e
    obtain ⟨k1, st2, e2, e⟩ := bnd e
    obtain ⟨e4, rfl⟩ := lfts e2
    cases asB_some e4
    obtain ⟨rfl, rfl⟩ := purs e
    refine ⟨ρ, F, st, _, st', b, s, e1, fun v H' F' b' r => ?_⟩
    cases r
    exact ⟨_, rfl, q _ H' F' b' (.bl _)⟩
def mIfE (c : Ev → M Bool) (ma mb : Ev → M PyData) : Ev → M PyData := fun ρ => do if (← c ρ) then ma ρ else mb ρ
theorem se_if {mt : Ev → M Bool} (hc : STs X c mt) (ha : SE X a ma) (hb : SE X b mb) : SE X (.IfExp c a b pos) (mIfE mt ma mb) := fun g H0 F0 =>
  (pe_ifExp (hc g H0 F0) (ha g H0 F0) (hb g H0 F0)).imp fun σ H Q ⟨ρ, F, st, k, st', b, s, e, q⟩ => by
    obtain ⟨d, st1, e1, e⟩ := bnd e
    refine ⟨ρ, F, st, _, st1, b, s, e1, fun H' F' b' => ?_⟩
    cases d with
    | true => exact ⟨ρ, F', st1, _, st', b.trans b', s.step b'.stp, e, fun v H2 F2 b2 r => q v H2 F2 (b'.trans b2) r⟩
    | false => exact ⟨ρ, F', st1, _, st', b.trans b', s.step b'.stp, e, fun v H2 F2 b2 r => q v H2 F2 (b'.trans b2) r⟩
def mIfB (c : Ev → M Bool) (ma mb : Ev → M PyData) : Ev → M PyData := mIfE c ma mb
theorem sb_if {mt : Ev → M Bool} (hc : STs X c mt) (ha : SB X a ma) (hb : SB X b mb) : SB X (.IfExp c a b pos) (mIfE mt ma mb) := fun g H0 F0 =>
  (pe_ifExp (hc g H0 F0) (ha g H0 F0) (hb g H0 F0)).imp fun σ H Q ⟨ρ, F, st, k, st', b, s, e, q⟩ => by
    obtain ⟨d, st1, e1, e⟩ := bnd e
    refine ⟨ρ, F, st, _, st1, b, s, e1, fun H' F' b' => ?_⟩
    cases d with
    | true => exact ⟨ρ, F', st1, _, st', b.trans b', s.step b'.stp, e, fun v H2 F2 b2 r => q v H2 F2 (b'.trans b2) r⟩
    | false => exact ⟨ρ, F', st1, _, st', b.trans b', s.step b'.stp, e, fun v H2 F2 b2 r => q v H2 F2 (b'.trans b2) r⟩

/-! ### argument lists, displays -/
def mNil : Ev → M (List PyData) := fun _ => pure []
def mCons (m : Ev → M PyData) (ms : Ev → M (List PyData)) : Ev → M (List PyData) := fun ρ => do let d ← m ρ; let ds ← ms ρ; pure (d :: ds)
theorem sa_nil : SA X [] mNil := fun g H0 F0 => pa_nil.imp fun σ H Q ⟨ρ, F, st, k, st', b, s, e, q⟩ => by
  obtain ⟨rfl, rfl⟩ := purs e
  exact q [] H F b.base .nil
theorem sa_cons {ms : Ev → M (List PyData)} (ha : SE X e m) (hr : SA X es ms) (hs : starEach (e :: es) X.env = (false, eval e X.env) :: starEach es X.env := by rfl) : SA X (e :: es) (mCons m ms) := fun g H0 F0 =>
  (pa_cons (ha g H0 F0) (hr g H0 F0) hs).imp fun σ H Q ⟨ρ, F, st, k, st', b, s, e, q⟩ => by
    obtain ⟨d, st1, e1, e⟩ := bnd e
    obtain ⟨ds, st2, e2, e⟩ := bnd e
    obtain ⟨rfl, rfl⟩ := purs e
    exact ⟨ρ, F, st, d, st1, b, s, e1, fun v H1 F1 b1 r1 => ⟨ρ, F1, st1, ds, st', b.trans b1, s.step b1.stp, e2, fun vs H2 F2 b2 r2 => q (v :: vs) H2 F2 (b1.trans b2) (.cons (Rp.mono b2.stp.fr _ _ r1) r2)⟩⟩
theorem sab_nil : SAB X [] mNil := fun g H0 F0 => pa_nil.imp fun σ H Q ⟨ρ, F, st, k, st', b, s, e, q⟩ => by
  obtain ⟨rfl, rfl⟩ := purs e
  exact q [] H F b.base .nil
theorem sab_cons {ms : Ev → M (List PyData)} (ha : SB X e m) (hr : SAB X es ms) (hs : starEach (e :: es) X.env = (false, eval e X.env) :: starEach es X.env := by rfl) : SAB X (e :: es) (mCons m ms) := fun g H0 F0 =>
  (pa_cons (ha g H0 F0) (hr g H0 F0) hs).imp fun σ H Q ⟨ρ, F, st, k, st', b, s, e, q⟩ => by
    obtain ⟨d, st1, e1, e⟩ := bnd e
    obtain ⟨ds, st2, e2, e⟩ := bnd e
    obtain ⟨rfl, rfl⟩ := purs e
    exact ⟨ρ, F, st, d, st1, b, s, e1, fun v H1 F1 b1 r1 => ⟨ρ, F1, st1, ds, st', b.trans b1, s.step b1.stp, e2, fun vs H2 F2 b2 r2 => q (v :: vs) H2 F2 (b1.trans b2) (.cons (r1.step b2.stp) r2)⟩⟩
def sz {α : Type} (xs : List α) : Option (List α) := if xs.length ≤ 1000000 then some xs else none
theorem szs {α : Type} {xs ys : List α} (h : sz xs = some ys) : xs = ys ∧ xs.length ≤ sizeLine := by
  unfold sz at h
  by_cases hl : xs.length ≤ 1000000
  · rw [if_pos hl] at h; cases h; exact ⟨rfl, by rw [sizeLine_eq]; omega⟩
  · rw [if_neg hl] at h; cases h
def mTup (ms : Ev → M (List PyData)) : Ev → M PyData := fun ρ => do let ds ← ms ρ; let ds ← lft (sz ds); pure (.tuple ds)
def mLst (ms : Ev → M (List PyData)) : Ev → M (List PyData) := fun ρ => do let ds ← ms ρ; lft (sz ds)
/-- a tuple just laid, kept as the object that it is -/
def tTupZ (t : L2.TA) : TE := fun σ H Q => t σ H fun xs H1 => xs.length ≤ sizeLine ∧ ∀ p o, H1 p = none → o.dict = none → Q (.ref p) (upd H1 p (.frz o (.tup xs)))
theorem pe_tupZ {k : Nat} {t : L2.TA} (h : PA X es t) : PE X (.Tuple es k pos) (tTupZ t) := ⟨fun pins s σ H Q I hq =>
  PySem.wpAny_Tuple_spliced (thn (h.run pos pins s σ H _ I hq) fun us s1 ⟨xs, H1, I1, r, z, q⟩ => ⟨by rw [← r.length]; exact z,
    .ref s1.heap.objs.size, _, I1.laid (t' := s1.toks) (o := .frz { cls := .type "tuple", data := .seq us.toArray } (.tup xs)) (fun b u e => Heap.get?_push_of_some _ e) (Nat.le_refl _) ⟨Heap.get?_push_size _ rfl, z, us, r, ⟨_, Heap.get?_push_size _ rfl, rfl, _, rfl⟩⟩, rfl,
    q _ _ (I1.hok.fresh (Nat.le_refl _)) rfl⟩)⟩
theorem noneF {g : Gh} {H0 F0 H F : Hp} {st : Pk} {p : Addr} (b : Bs g H0 F0 H F st) (hp : H p = none) : F p = none := by
  cases z : F p with
  | none => rfl
  | some o => have := b.sub _ _ z; rw [hp] at this; cases this
theorem Bs.tupNew {K : PySem.W.Frag} {g : Gh} {H F H2 F2 : Hp} {st : Pk} {p : Addr} {o : Obj} {vs : List V} {ds : List PyData} (b : Bs g H F H2 F2 st) (hp : H2 p = none) (ho : o.dict = none) (r : RpA K F2 vs ds) : Bs g H F (upd H2 p (.frz o (.tup vs))) (upd F2 p (.frz o (.tup vs))) st ∧ Rp K (upd F2 p (.frz o (.tup vs))) (.ref p) (.tuple ds) :=
  ⟨b.newF hp, .tup (.inl ⟨o, upd_same, ho⟩) (RpA.mono (Same.updN (noneF b hp)) _ _ r)⟩
theorem Bs.lstNew {K : PySem.W.Frag} {g : Gh} {H F H2 F2 : Hp} {st : Pk} {p : Addr} {vs : List V} {ds : List PyData} (b : Bs g H F H2 F2 st) (hp : H2 p = none) (r : RpA K F2 vs ds) : Bs g H F (upd H2 p (.lst vs)) (upd F2 p (.lst vs)) st ∧ Rp K (upd F2 p (.lst vs)) (.ref p) (.list ds) :=
  ⟨b.newF hp, .lst upd_same (RpA.mono (Same.updN (noneF b hp)) _ _ r)⟩
theorem se_tup {k : Nat} {ms : Ev → M (List PyData)} (h : SA X es ms) : SE X (.Tuple es k pos) (mTup ms) := fun g H0 F0 => (pe_tupZ (h g H0 F0)).imp fun σ H Q ⟨ρ, F, st, k, st', b, s, e, q⟩ => by
  obtain ⟨ds, st1, e1, f1⟩ := bnd e
  obtain ⟨ds2, st2, e2, f2⟩ := bnd f1
  obtain ⟨e4, rfl⟩ := lfts e2
  obtain ⟨rfl, rfl⟩ := purs f2
  obtain ⟨rfl, hz⟩ := szs e4
  exact ⟨ρ, F, st, ds, st', b, s, e1, fun vs H' F' b' r => ⟨by rw [r.length]; exact hz, fun p o hp ho => let ⟨b3, r3⟩ := b'.tupNew hp ho r; q _ _ _ b3 r3⟩⟩
theorem sf_lst {ms : Ev → M (List PyData)} (h : SA X es ms) : SF X (.List es pos) (mLst ms) := fun g H0 F0 => (pe_lst (h g H0 F0)).imp fun σ H Q ⟨ρ, F, st, k, st', b, s, e, q⟩ => by
  obtain ⟨ds, st1, e1, e⟩ := bnd e
  obtain ⟨e2, rfl⟩ := lfts e
  obtain ⟨rfl, hz⟩ := szs e2
  refine ⟨ρ, F, st, ds, st', b, s, e1, fun vs H' F' b' r => ⟨by rw [r.length]; exact hz, fun p hp => ?_⟩⟩
  exact q p vs _ F' (b'.newH hp) (none_of b' hp) upd_same (by
    cases z : F' p with
    | none => rfl
    | some o => have := b'.sub _ _ z; rw [hp] at this; cases this) r
def mDNil : Ev → M (List (PyData × PyData)) := fun _ => pure []
theorem sd_nil : SD X (.Dict [] [] pos) mDNil := fun g H0 F0 => pe_dnewK.imp fun σ H Q ⟨ρ, F, st, k, st', b, s, e, q⟩ p hp => by
  obtain ⟨rfl, rfl⟩ := purs e
  exact q p [] _ F (b.base.newH hp) hp upd_same (by
    cases z : F p with
    | none => rfl
    | some o => have := b.sub _ _ z; rw [hp] at this; cases this) .nil
end
end DL
end

section
set_option Elab.async false
set_option linter.all false
set_option maxRecDepth 100000
set_option maxHeartbeats 4000000
/-! DL3: judgements of statements by mirrors; loops. -/
namespace DL
open PySem L2

inductive Fl where
  | nx (ρ : Ev)
  | rt (d : PyData)
  | bk (ρ : Ev)
  | ct (ρ : Ev)
def Fin' (K : PySem.W.Frag) (g : Gh) (H0 F0 F : Hp) (st' : Pk) (D : Ends) : Fl → Prop
  | .nx ρ' => ∀ σ' H' F', Bs g H0 F0 H' F' st' → Same F F' → Slots K g H0 H' F' σ' ρ' → D.nx σ' H'
  | .bk ρ' => ∀ σ' H' F', Bs g H0 F0 H' F' st' → Same F F' → Slots K g H0 H' F' σ' ρ' → D.bk σ' H'
  | .ct ρ' => ∀ σ' H' F', Bs g H0 F0 H' F' st' → Same F F' → Slots K g H0 H' F' σ' ρ' → D.ct σ' H'
  | .rt d => ∀ v H' F', Bs g H0 F0 H' F' st' → Same F F' → Rp K F' v d → D.rt v H'
theorem Fin'.mono {K : PySem.W.Frag} {g : Gh} {H0 F0 F F1 : Hp} {st' : Pk} {D : Ends} (s : Same F F1) : ∀ {fl : Fl}, Fin' K g H0 F0 F st' D fl → Fin' K g H0 F0 F1 st' D fl
  | .nx _, h => fun σ' H' F' b p r => h σ' H' F' b (s.trans p) r
  | .bk _, h => fun σ' H' F' b p r => h σ' H' F' b (s.trans p) r
  | .ct _, h => fun σ' H' F' b p r => h σ' H' F' b (s.trans p) r
  | .rt _, h => fun σ' H' F' b p r => h σ' H' F' b (s.trans p) r
def tS (K : PySem.W.Frag) (g : Gh) (H0 F0 : Hp) (m : Ev → M Fl) : TS := fun D σ H => ∃ ρ F st fl st', Bs g H0 F0 H F st ∧ Slots K g H0 H F σ ρ ∧ m ρ st = some (fl, st') ∧ Fin' K g H0 F0 F st' D fl
/-- an item that may be a pair just made (zip, items ..) -/
def RpX (w : Bool) (K : PySem.W.Frag) (F : Hp) (v : V) (d : PyData) : Prop := Rp K F v d ∨ (w = true ∧ ∃ a xs ds, v = .ref a ∧ d = .tuple ds ∧ F a = some (.tup xs) ∧ RpA K F xs ds)
theorem RpX.tup {w : Bool} {K : PySem.W.Frag} {F : Hp} {v : V} {ds : List PyData} (r : RpX w K F v (.tuple ds)) : ∃ a xs, v = .ref a ∧ SqT K F a xs ∧ RpA K F xs ds := by
  rcases r with r | ⟨_, a, xs, ds', e1, e2, h, r⟩
  · cases r with
    | tup h1 h2 => exact ⟨_, _, rfl, h1.sq, h2⟩
  · cases e2; exact ⟨a, xs, e1, .inl (.inl h), r⟩
/-- a target's store -/
def tG (w : Bool) (K : PySem.W.Frag) (g : Gh) (H0 F0 : Hp) (ws : List Nat) (m : PyData → Ev → M Ev) : TG := fun v σ H Q => ∃ ρ F st d ρ' st', Bs g H0 F0 H F st ∧ Slots K g H0 H F σ ρ ∧ RpX w K F v d ∧ m d ρ st = some (ρ', st') ∧
  ∀ σ' H' F', Bs g H F H' F' st' → Slots K g H0 H' F' σ' ρ' → wipe σ' ws = wipe σ ws → Q σ' H'
def tGs (K : PySem.W.Frag) (g : Gh) (H0 F0 : Hp) (ws : List Nat) (m : List PyData → Ev → M Ev) : TGs := fun vs σ H Q => ∃ ρ F st ds ρ' st', Bs g H0 F0 H F st ∧ Slots K g H0 H F σ ρ ∧ RpA K F vs ds ∧ m ds ρ st = some (ρ', st') ∧
  ∀ σ' H' F', Bs g H F H' F' st' → Slots K g H0 H' F' σ' ρ' → wipe σ' ws = wipe σ ws → Q σ' H'
/-- what is walked: its items. Fz: the items stay as long as what is frozen stays -/
def ItOk (w : Bool) (K : PySem.W.Frag) (J : It) (ds : List PyData) (R : Gh → Hp → Hp → Prop) : Prop := ∀ (i : Nat) (g : Gh) (H0 F0 H2 F2 : Hp) (st2 : Pk), Bs g H0 F0 H2 F2 st2 → R g H2 F2 →
  (∀ d, ds[i]? = some d → J.go i H2 ∧ ∀ x H3, J.yld i H2 x H3 → ∃ F3, Bs g H2 F2 H3 F3 st2 ∧ RpX w K F3 x d) ∧ (ds.length ≤ i → J.stop i H2)
def tI (w : Bool) (K : PySem.W.Frag) (g : Gh) (H0 F0 : Hp) (m : Ev → M (List PyData)) : TI := fun σ H R => ∃ ρ F st ds st', Bs g H0 F0 H F st ∧ Slots K g H0 H F σ ρ ∧ m ρ st = some (ds, st') ∧
  ∀ J H' F', Bs g H F H' F' st' → ItOk w K J ds (fun _ _ F2 => Same F' F2) → R J H'
/-- .. as long as all stays but the source -/
def tJ (w : Bool) (K : PySem.W.Frag) (g : Gh) (H0 F0 : Hp) (m : Ev → M (List PyData)) : TI := fun σ H R => ∃ ρ F st ds st', Bs g H0 F0 H F st ∧ Slots K g H0 H F σ ρ ∧ m ρ st = some (ds, st') ∧
  ∀ J H' F', Bs g H F H' F' st' → ItOk w K J ds (fun g2 H2 F2 => g2 = g ∧ Stp g H' F' H2 F2) → R J H'

def SS (X : Cx) (s : Stmt) (m : Ev → M Fl) : Prop := ∀ g H0 F0, PS X s (tS X.K g H0 F0 m)
def SSs (X : Cx) (s : List Stmt) (m : Ev → M Fl) : Prop := ∀ g H0 F0, PSs X s (tS X.K g H0 F0 m)
def SG (w : Bool) (X : Cx) (ws : List Nat) (e : Expr) (m : PyData → Ev → M Ev) : Prop := ∀ g H0 F0, PG X e (tG w X.K g H0 F0 ws m)
def SGs (X : Cx) (ws : List Nat) (e : List Expr) (m : List PyData → Ev → M Ev) : Prop := ∀ g H0 F0, PGs X e (tGs X.K g H0 F0 ws m)
def SI (w : Bool) (X : Cx) (tg e : Expr) (m : Ev → M (List PyData)) : Prop := ∀ g H0 F0, PI X tg e (tI w X.K g H0 F0 m)
def SJ (w : Bool) (X : Cx) (tg e : Expr) (m : Ev → M (List PyData)) : Prop := ∀ g H0 F0, PI X tg e (tJ w X.K g H0 F0 m)

theorem _root_.L2.PS.imp {X : Cx} {s : Stmt} {t t' : TS} (h : PS X s t) (hi : ∀ D σ H, t' D σ H → t D σ H) : PS X s t' := ⟨fun pins s σ H D I q => h.run pins s σ H D I (hi _ _ _ q)⟩
theorem _root_.L2.PSs.imp {X : Cx} {s : List Stmt} {t t' : TS} (h : PSs X s t) (hi : ∀ D σ H, t' D σ H → t D σ H) : PSs X s t' := ⟨fun pins s σ H D I q => h.run pins s σ H D I (hi _ _ _ q)⟩
theorem _root_.L2.PG.imp {X : Cx} {s : Expr} {t t' : TG} (h : PG X s t) (hi : ∀ v σ H Q, t' v σ H Q → t v σ H Q) : PG X s t' := ⟨fun pins s σ H v u Q I r q => h.run pins s σ H v u Q I r (hi _ _ _ _ q)⟩
theorem _root_.L2.PGs.imp {X : Cx} {s : List Expr} {t t' : TGs} (h : PGs X s t) (hi : ∀ v σ H Q, t' v σ H Q → t v σ H Q) : PGs X s t' := ⟨fun pins s σ H v u Q I r q => h.run pins s σ H v u Q I r (hi _ _ _ _ q)⟩
theorem _root_.L2.PI.imp {X : Cx} {tg e : Expr} {t t' : TI} (h : PI X tg e t) (hi : ∀ σ H R, t' σ H R → t σ H R) : PI X tg e t' := ⟨fun pins s σ H R I q => h.run pins s σ H R I (hi _ _ _ q)⟩

section
variable {X : Cx} {w : Bool} {ws : List Nat} {e a b c tg : Expr} {es : List Expr} {m ma mb mc : Ev → M PyData} {pos : Pos} {s : Stmt} {rest body orelse : List Stmt} {m1 m2 : Ev → M Fl}

theorem wipe_get (σ : St) : ∀ (vs : List Nat) (j : Nat), (wipe σ vs)[j]? = if j ∈ vs then σ[j]?.map (fun _ => none) else σ[j]?
  | [], j => by simp [wipe]
  | v :: vs, j => by
    have ih := wipe_get σ vs j
    unfold wipe
    rw [List.getElem?_set]
    by_cases h : v = j
    · subst h
      rw [if_pos rfl, if_pos (List.mem_cons_self ..), wipe_length]
      by_cases hl : v < σ.length
      · rw [if_pos hl, List.getElem?_eq_getElem hl]; rfl
      · rw [if_neg hl, List.getElem?_eq_none (by omega)]; rfl
    · rw [if_neg h, ih]
      have e : (j ∈ v :: vs) ↔ j ∈ vs := by
        rw [List.mem_cons]
        exact ⟨fun z => z.elim (fun z => absurd z.symm h) id, .inr⟩
      by_cases hm : j ∈ vs
      · rw [if_pos hm, if_pos (e.mpr hm)]
      · rw [if_neg hm, if_neg (fun z => hm (e.mp z))]
theorem wipe_set {σ : St} {i : Nat} {x : Option V} {vs : List Nat} (h : i ∈ vs) : wipe (σ.set i x) vs = wipe σ vs := by
  refine List.ext_getElem? fun j => ?_
  rw [wipe_get, wipe_get]
  by_cases hm : j ∈ vs
  · rw [if_pos hm, if_pos hm, List.getElem?_set]
    by_cases e : i = j
    · subst e
      rw [if_pos rfl]
      by_cases hl : i < σ.length
      · rw [if_pos hl, List.getElem?_eq_getElem hl]; rfl
      · rw [if_neg hl, List.getElem?_eq_none (by omega)]
    · rw [if_neg e]
  · rw [if_neg hm, if_neg hm, List.getElem?_set_ne]
    rintro rfl
    exact hm h

/-! ### blocks -/
def mPass : Ev → M Fl := fun ρ => pure (.nx ρ)
def mFail {α : Type} : Ev → M α := fun _ => lft none
def mSeq (m1 m2 : Ev → M Fl) : Ev → M Fl := fun ρ => do
  match ← m1 ρ with
  | .nx ρ' => m2 ρ'
  | fl => pure fl
theorem sss_nil : SSs X [] mPass := fun g H0 F0 => pss_nil.imp fun D σ H ⟨ρ, F, st, fl, st', b, s, e, q⟩ => by
  obtain ⟨rfl, rfl⟩ := purs e
  exact q σ H F b (.refl _) s
theorem sss_one (h : SS X s m1) : SSs X [s] m1 := fun g H0 F0 => pss_one (h g H0 F0)
theorem sss_cons (h1 : SS X s m1) (h2 : SSs X rest m2) : SSs X (s :: rest) (mSeq m1 m2) := fun g H0 F0 => (pss_cons (h1 g H0 F0) (h2 g H0 F0)).imp fun D σ H ⟨ρ, F, st, fl, st', b, sl, e, q⟩ => by
  obtain ⟨fl1, st1, e1, e2⟩ := bnd e
  refine ⟨ρ, F, st, fl1, st1, b, sl, e1, ?_⟩
  cases fl1 with
  | nx ρ' => exact fun σ' H' F' b' p s' => ⟨ρ', F', st1, fl, st', b', s', e2, q.mono p⟩
  | rt d => obtain ⟨rfl, rfl⟩ := purs e2; exact q
  | bk ρ' => obtain ⟨rfl, rfl⟩ := purs e2; exact q
  | ct ρ' => obtain ⟨rfl, rfl⟩ := purs e2; exact q
/-- code that is never come to -/
theorem ss_fail : SS X s mFail := fun g H0 F0 => ps_never.imp fun D σ H ⟨ρ, F, st, fl, st', b, sl, e, q⟩ => by cases e
theorem sss_fail : SSs X rest mFail := fun g H0 F0 => pss_never.imp fun D σ H ⟨ρ, F, st, fl, st', b, sl, e, q⟩ => by cases e
theorem ss_pass : SS X (.Pass pos) mPass := fun g H0 F0 => ps_pass.imp fun D σ H ⟨ρ, F, st, fl, st', b, sl, e, q⟩ => by
  obtain ⟨rfl, rfl⟩ := purs e
  exact q σ H F b (.refl _) sl
def mBrk : Ev → M Fl := fun ρ => pure (.bk ρ)
def mCnt : Ev → M Fl := fun ρ => pure (.ct ρ)
theorem ss_break : SS X (.Break pos) mBrk := fun g H0 F0 => ps_break.imp fun D σ H ⟨ρ, F, st, fl, st', b, sl, e, q⟩ => by
  obtain ⟨rfl, rfl⟩ := purs e
  exact q σ H F b (.refl _) sl
theorem ss_continue : SS X (.Continue pos) mCnt := fun g H0 F0 => ps_continue.imp fun D σ H ⟨ρ, F, st, fl, st', b, sl, e, q⟩ => by
  obtain ⟨rfl, rfl⟩ := purs e
  exact q σ H F b (.refl _) sl
def mDrop (m : Ev → M PyData) : Ev → M Fl := fun ρ => do let _ ← m ρ; pure (.nx ρ)
theorem ss_expr (he : SB X e m) (hs : swapsWith e none pos.line X.env = pure false := by rfl) : SS X (.Expr e pos) (mDrop m) := fun g H0 F0 => (ps_expr (he g H0 F0) hs).imp fun D σ H ⟨ρ, F, st, fl, st', b, sl, e, q⟩ => by
  obtain ⟨d, st1, e1, e2⟩ := bnd e
  obtain ⟨rfl, rfl⟩ := purs e2
  exact ⟨ρ, F, st, d, st', b, sl, e1, fun v H' F' b' r => q σ H' F' (b.trans b') b'.stp.fr (sl.step b'.stp)⟩
def mRet (m : Ev → M PyData) : Ev → M Fl := fun ρ => do let d ← m ρ; pure (.rt d)
theorem ss_ret (he : SE X e m) : SS X (.Return (some e) pos) (mRet m) := fun g H0 F0 => (ps_ret (he g H0 F0)).imp fun D σ H ⟨ρ, F, st, fl, st', b, sl, e, q⟩ => by
  obtain ⟨d, st1, e1, e2⟩ := bnd e
  obtain ⟨rfl, rfl⟩ := purs e2
  exact ⟨ρ, F, st, d, st', b, sl, e1, fun v H' F' b' r => q v H' F' (b.trans b') b'.stp.fr r⟩
def mRetN : Ev → M Fl := fun ρ => pure (.rt .none)
theorem ss_retN : SS X (.Return none pos) mRetN := fun g H0 F0 => ps_retN.imp fun D σ H ⟨ρ, F, st, fl, st', b, sl, e, q⟩ => by
  obtain ⟨rfl, rfl⟩ := purs e
  exact q .non H F b (.refl _) .non
def mIfS (c : Ev → M Bool) (m1 m2 : Ev → M Fl) : Ev → M Fl := fun ρ => do if (← c ρ) then m1 ρ else m2 ρ
theorem ss_if {mt : Ev → M Bool} (hc : STs X c mt) (ha : SSs X body m1) (hb : SSs X orelse m2) : SS X (.If c body orelse pos) (mIfS mt m1 m2) := fun g H0 F0 =>
  (ps_if (hc g H0 F0) (ha g H0 F0) (hb g H0 F0)).imp fun D σ H ⟨ρ, F, st, fl, st', b, sl, e, q⟩ => by
  obtain ⟨k, st1, e1, e2⟩ := bnd e
  refine ⟨ρ, F, st, k, st1, b, sl, e1, fun H' F' b' => ?_⟩
  cases k with
  | true => exact ⟨ρ, F', st1, fl, st', b.trans b', sl.step b'.stp, e2, q.mono b'.stp.fr⟩
  | false => exact ⟨ρ, F', st1, fl, st', b.trans b', sl.step b'.stp, e2, q.mono b'.stp.fr⟩

/-- an owned object of the i-th slot becomes data -/
def frzAt (i : Nat) (ρ : Ev) : Ev := match ρ[i]? with
  | some (.ol ds) => ρ.set i (.vl (.list ds))
  | some (.od kvs) => ρ.set i (.vl (.dict kvs))
  | _ => ρ
def mFz {α : Type} (i : Nat) (m : Ev → M α) : Ev → M α := fun ρ => m (frzAt i ρ)
theorem upd_self {H : Hp} {a : Addr} {o : HO} (h : H a = some o) : upd H a o = H := by
  funext b
  by_cases e : b = a
  · subst e; rw [upd_same, h]
  · rw [upd_ne e]
def FzOk (K : PySem.W.Frag) (g : Gh) (H0 F0 H F : Hp) (st : Pk) (σ : St) (ρ' : Ev) : Prop := ∃ F', Same F F' ∧ Bs g H0 F0 H F' st ∧ Slots K g H0 H F' σ ρ'
theorem frz_sim {K : PySem.W.Frag} {g : Gh} {H0 F0 H F : Hp} {st : Pk} {σ : St} {ρ : Ev} (i : Nat) (b : Bs g H0 F0 H F st) (sl : Slots K g H0 H F σ ρ) :
    FzOk K g H0 F0 H F st σ (frzAt i ρ) ∨ ∃ a ks, H a = some (.dK ks) ∧ ∀ od, FzOk K g H0 F0 (upd H a (.frz od (.dK ks))) F st σ (frzAt i ρ) := by
  have main : ∀ (s : Sl) (a : Addr) (o o' : HO) (d : PyData), ρ[i]? = some s → s.owned = true → σ[i]? = some (some (.ref a)) → H a = some o → F a = none → a ≠ g.a → a ≠ g.l → H0 a = none → (∀ F', Same F F' → F' a = some o' → Rp K F' (.ref a) d) →
      FzOk K g H0 F0 (upd H a o') F st σ (ρ.set i (.vl d)) := by
    intro s a o o' d hρ ho hσ hH hF n1 n2 n3 hr
    refine ⟨upd F a o', Same.updN hF, ⟨fun c u h => ?_, ?_, ?_, ?_, ?_, b.ne, b.ok, ⟨b.stp.fr.trans (Same.updN hF), fun c u h => ?_, fun c u h m1 m2 => ?_, fun c h => ?_⟩⟩, ?_⟩
    · by_cases e : c = a
      · subst e; rw [upd_same] at h ⊢; exact h
      · rw [upd_ne e] at h ⊢; exact b.sub c u h
    · rw [upd_ne (Ne.symm n1)]; exact b.sa
    · rw [upd_ne (Ne.symm n2)]; exact b.sl
    · rw [upd_ne (Ne.symm n1)]; exact b.na
    · rw [upd_ne (Ne.symm n2)]; exact b.nl
    · by_cases e : c = a
      · subst e; exact .inr n3
      · rw [upd_ne e] at h; exact b.stp.nw c u h
    · rw [upd_ne (ne_of_none h n3)]; exact b.stp.kp c u h m1 m2
    · by_cases e : c = a
      · subst e; exact n3
      · rw [upd_ne e] at h; exact b.stp.gr c h
    · have key : ∀ (j : Nat) (t : Sl) (x : Option V), j ≠ i → ρ[j]? = some t → σ[j]? = some x → SlOk K g H0 (upd H a o') (upd F a o') t x := fun j t x hj e1 e2 =>
        (sl.at_ j t x e1 e2).freeze hF fun hot hx => sl.dis j i t s a hj e1 hρ hot ho (by rw [e2, hx]) hσ
      refine ⟨by rw [List.length_set]; exact sl.len, fun j t x e1 e2 => ?_, fun j k t u c hjk e1 e2 o1 o2 e3 e4 => ?_⟩
      · by_cases hj : j = i
        · subst hj
          have l1 : j < ρ.length := (List.getElem?_eq_some_iff.mp hρ).1
          rw [List.getElem?_set_self l1] at e1
          rw [hσ] at e2
          cases e1; cases e2
          exact ⟨_, rfl, hr _ (Same.updN hF) upd_same⟩
        · rw [List.getElem?_set_ne (Ne.symm hj)] at e1
          exact key j t x hj e1 e2
      · have l1 : i < ρ.length := (List.getElem?_eq_some_iff.mp hρ).1
        have nj : j ≠ i := fun z => by subst z; rw [List.getElem?_set_self l1] at e1; cases e1; cases o1
        have nk : k ≠ i := fun z => by subst z; rw [List.getElem?_set_self l1] at e2; cases e2; cases o2
        rw [List.getElem?_set_ne (Ne.symm nj)] at e1
        rw [List.getElem?_set_ne (Ne.symm nk)] at e2
        exact sl.dis j k t u c hjk e1 e2 o1 o2 e3 e4
  unfold frzAt
  cases hρ : ρ[i]? with
  | none => exact .inl ⟨F, .refl _, b, sl⟩
  | some s =>
    obtain ⟨x, hσ, k⟩ := sl.get hρ
    cases s with
    | no => exact .inl ⟨F, .refl _, b, sl⟩
    | vl d => exact .inl ⟨F, .refl _, b, sl⟩
    | src => exact .inl ⟨F, .refl _, b, sl⟩
    | scl => exact .inl ⟨F, .refl _, b, sl⟩
    | ol ds =>
      obtain ⟨a, vs, rfl, h, n, n1, n2, n3, r⟩ := k
      have z := main _ a _ _ _ hρ rfl hσ h n n1 n2 n3 fun F' s e => .lst e (RpA.mono s _ _ r)
      rw [upd_self h] at z
      exact .inl z
    | od ds =>
      obtain ⟨a, vs, rfl, h, n, n1, n2, n3, r⟩ := k
      exact .inr ⟨a, vs, h, fun od => main _ a _ _ _ hρ rfl hσ h n n1 n2 n3 fun F' s e => .dic e (RpK.mono s _ _ r)⟩
theorem ps_lockA {s : Stmt} {t : TS} (h : PS X s t) : PS X s (fun D σ H => t D σ H ∨ ∃ a ks, H a = some (.dK ks) ∧ ∀ od, t D σ (upd H a (.frz od (.dK ks)))) := ⟨fun pins s σ H D I hq => by
  rcases hq with hq | ⟨a, ks, hd, q⟩
  · exact h.run pins s σ H D I hq
  · obtain ⟨od, I2⟩ := I.lock hd True.intro
    exact h.run pins s σ _ D I2 (q od)⟩
theorem pss_lockA {s : List Stmt} {t : TS} (h : PSs X s t) : PSs X s (fun D σ H => t D σ H ∨ ∃ a ks, H a = some (.dK ks) ∧ ∀ od, t D σ (upd H a (.frz od (.dK ks)))) := ⟨fun pins s σ H D I hq => by
  rcases hq with hq | ⟨a, ks, hd, q⟩
  · exact h.run pins s σ H D I hq
  · obtain ⟨od, I2⟩ := I.lock hd True.intro
    exact h.run pins s σ _ D I2 (q od)⟩
theorem ss_fz (i : Nat) (h : SS X s m1) : SS X s (mFz i m1) := fun g H0 F0 => (ps_lockA (h g H0 F0)).imp fun D σ H ⟨ρ, F, st, fl, st', b, sl, e, q⟩ => by
  rcases frz_sim i b sl with ⟨F', p, b', sl'⟩ | ⟨a, ks, hd, z⟩
  · exact .inl ⟨frzAt i ρ, F', st, fl, st', b', sl', e, q.mono p⟩
  · exact .inr ⟨a, ks, hd, fun od => let ⟨F', p, b', sl'⟩ := z od; ⟨frzAt i ρ, F', st, fl, st', b', sl', e, q.mono p⟩⟩
theorem sss_fz (i : Nat) (h : SSs X rest m1) : SSs X rest (mFz i m1) := fun g H0 F0 => (pss_lockA (h g H0 F0)).imp fun D σ H ⟨ρ, F, st, fl, st', b, sl, e, q⟩ => by
  rcases frz_sim i b sl with ⟨F', p, b', sl'⟩ | ⟨a, ks, hd, z⟩
  · exact .inl ⟨frzAt i ρ, F', st, fl, st', b', sl', e, q.mono p⟩
  · exact .inr ⟨a, ks, hd, fun od => let ⟨F', p, b', sl'⟩ := z od; ⟨frzAt i ρ, F', st, fl, st', b', sl', e, q.mono p⟩⟩

/-! ### stores -/
def mSet (i : Nat) (m : Ev → M PyData) : Ev → M Fl := fun ρ => do let d ← m ρ; pure (.nx (ρ.set i (.vl d)))
def mSetF (i : Nat) (m : Ev → M (List PyData)) : Ev → M Fl := fun ρ => do let ds ← m ρ; pure (.nx (ρ.set i (.ol ds)))
def mSetD (i : Nat) (m : Ev → M (List (PyData × PyData))) : Ev → M Fl := fun ρ => do let ds ← m ρ; pure (.nx (ρ.set i (.od ds)))
theorem fresh_ol {K : PySem.W.Frag} {g : Gh} {H0 F0 H F H' F' : Hp} {st st' : Pk} {a : Addr} {vs : List V} {ds : List PyData} (b : Bs g H0 F0 H F st) (b' : Bs g H F H' F' st') (h1 : H a = none) (h2 : H' a = some (.lst vs)) (h3 : F' a = none) (r : RpA K F' vs ds) : SlOk K g H0 H' F' (.ol ds) (some (.ref a)) :=
  ⟨a, vs, rfl, h2, h3, (fun z => by rw [z, b.sa] at h1; cases h1), (fun z => by rw [z, b.sl] at h1; cases h1), b.stp.gr a h1, r⟩
theorem fresh_od {K : PySem.W.Frag} {g : Gh} {H0 F0 H F H' F' : Hp} {st st' : Pk} {a : Addr} {vs : List (Key × V)} {ds : List (PyData × PyData)} (b : Bs g H0 F0 H F st) (b' : Bs g H F H' F' st') (h1 : H a = none) (h2 : H' a = some (.dK vs)) (h3 : F' a = none) (r : RpK K F' vs ds) : SlOk K g H0 H' F' (.od ds) (some (.ref a)) :=
  ⟨a, vs, rfl, h2, h3, (fun z => by rw [z, b.sa] at h1; cases h1), (fun z => by rw [z, b.sl] at h1; cases h1), b.stp.gr a h1, r⟩
theorem ss_set {i : Nat} {x : Str} {pos' : Pos} (hN : X.N.Nodup) (he : SE X e m) (hi : X.N[i]? = some x := by rfl) (hx : Loc X.env.scope x := by first | exact Or.inl rfl | exact Or.inr rfl) (hs : swapsWith e (some (.Name x pos')) pos.line X.env = pure false := by rfl)
    (hf : X.fn x = true ∨ X.env.scope.names.lookup x = some .local := by first | exact .inl rfl | exact .inr rfl) : SS X (.Assign [.Name x pos'] e pos) (mSet i m) := fun g H0 F0 => (ps_set hN hi hx (he g H0 F0) hs hf).imp fun D σ H ⟨ρ, F, st, fl, st', b, sl, e, q⟩ => by
  obtain ⟨d, st1, e1, e2⟩ := bnd e
  obtain ⟨rfl, rfl⟩ := purs e2
  exact ⟨ρ, F, st, d, st', b, sl, e1, fun v H' F' b' r => q _ H' F' (b.trans b') b'.stp.fr ((sl.step b'.stp).put ⟨v, rfl, r⟩ rfl)⟩
theorem ss_setF {i : Nat} {x : Str} {pos' : Pos} {m : Ev → M (List PyData)} (hN : X.N.Nodup) (he : SF X e m) (hi : X.N[i]? = some x := by rfl) (hx : Loc X.env.scope x := by first | exact Or.inl rfl | exact Or.inr rfl) (hs : swapsWith e (some (.Name x pos')) pos.line X.env = pure false := by rfl)
    (hf : X.fn x = true ∨ X.env.scope.names.lookup x = some .local := by first | exact .inl rfl | exact .inr rfl) : SS X (.Assign [.Name x pos'] e pos) (mSetF i m) := fun g H0 F0 => (ps_set hN hi hx (he g H0 F0) hs hf).imp fun D σ H ⟨ρ, F, st, fl, st', b, sl, e, q⟩ => by
  obtain ⟨d, st1, e1, e2⟩ := bnd e
  obtain ⟨rfl, rfl⟩ := purs e2
  exact ⟨ρ, F, st, d, st', b, sl, e1, fun a vs H' F' b' h1 h2 h3 r => q _ H' F' (b.trans b') b'.stp.fr (sl.fresh (fresh_ol b b' h1 h2 h3 r) b'.stp h1)⟩
theorem ss_setD {i : Nat} {x : Str} {pos' : Pos} {m : Ev → M (List (PyData × PyData))} (hN : X.N.Nodup) (he : SD X e m) (hi : X.N[i]? = some x := by rfl) (hx : Loc X.env.scope x := by first | exact Or.inl rfl | exact Or.inr rfl) (hs : swapsWith e (some (.Name x pos')) pos.line X.env = pure false := by rfl)
    (hf : X.fn x = true ∨ X.env.scope.names.lookup x = some .local := by first | exact .inl rfl | exact .inr rfl) : SS X (.Assign [.Name x pos'] e pos) (mSetD i m) := fun g H0 F0 => (ps_set hN hi hx (he g H0 F0) hs hf).imp fun D σ H ⟨ρ, F, st, fl, st', b, sl, e, q⟩ => by
  obtain ⟨d, st1, e1, e2⟩ := bnd e
  obtain ⟨rfl, rfl⟩ := purs e2
  exact ⟨ρ, F, st, d, st', b, sl, e1, fun a vs H' F' b' h1 h2 h3 r => q _ H' F' (b.trans b') b'.stp.fr (sl.fresh (fresh_od b b' h1 h2 h3 r) b'.stp h1)⟩

/-! ### targets -/
def gSet (i : Nat) : PyData → Ev → M Ev := fun d ρ => pure (ρ.set i (.vl d))
theorem sg_name {i : Nat} {x : Str} (hN : X.N.Nodup) (hw : i ∈ ws := by decide) (hi : X.N[i]? = some x := by rfl) (hx : Loc X.env.scope x := by first | exact Or.inl rfl | exact Or.inr rfl) (hf : X.fn x = true ∨ X.env.scope.names.lookup x = some .local := by first | exact .inl rfl | exact .inr rfl) : SG false X ws (.Name x pos) (gSet i) := fun g H0 F0 =>
  (pg_name hN hi hx hf).imp fun v σ H Q ⟨ρ, F, st, d, ρ', st', b, sl, r, e, q⟩ => by
  obtain ⟨rfl, rfl⟩ := purs e
  rcases r with r | ⟨z, _⟩
  · exact q _ H F b.base (sl.put ⟨v, rfl, r⟩ rfl) (wipe_set hw)
  · cases z
def gsNil : List PyData → Ev → M Ev := fun ds ρ => match ds with
  | [] => pure ρ
  | _ :: _ => lft none
def gsCons (m : PyData → Ev → M Ev) (ms : List PyData → Ev → M Ev) : List PyData → Ev → M Ev := fun ds ρ => match ds with
  | [] => lft none
  | d :: ds => do let ρ' ← m d ρ; ms ds ρ'
theorem sgs_nil : SGs X ws [] gsNil := fun g H0 F0 => pgs_nil.imp fun v σ H Q ⟨ρ, F, st, ds, ρ', st', b, sl, r, e, q⟩ => by
  cases r with
  | nil => obtain ⟨rfl, rfl⟩ := purs e; exact ⟨rfl, q _ H F b.base sl rfl⟩
  | cons _ _ => cases e
theorem sgs_cons {mg : PyData → Ev → M Ev} {ms : List PyData → Ev → M Ev} (h1 : SG false X ws e mg) (h2 : SGs X ws es ms) (hs : (assignEach (e :: es) X.env).map (·.2) = assign e X.env :: (assignEach es X.env).map (·.2) := by rfl) : SGs X ws (e :: es) (gsCons mg ms) := fun g H0 F0 =>
  (pgs_cons (h1 g H0 F0) (h2 g H0 F0) hs).imp fun v σ H Q ⟨ρ, F, st, ds, ρ', st', b, sl, r, e, q⟩ => by
  cases r with
  | nil => cases e
  | cons r1 r2 =>
    obtain ⟨ρ1, st1, e1, e2⟩ := bnd e
    exact ⟨_, _, rfl, ρ, F, st, _, ρ1, st1, b, sl, .inl r1, e1, fun σ1 H1 F1 b1 s1 w1 => ⟨ρ1, F1, st1, _, ρ', st', b.trans b1, s1, RpA.mono b1.stp.fr _ _ r2, e2, fun σ2 H2 F2 b2 s2 w2 => q σ2 H2 F2 (b1.trans b2) s2 (w2.trans w1)⟩⟩
/-- (a, b, ..) = a tuple of that length -/
def gTupD (n : Nat) (ms : List PyData → Ev → M Ev) : PyData → Ev → M Ev := fun d ρ => match d with
  | .tuple ds => if ds.length = n then ms ds ρ else lft none
  | _ => lft none
theorem sg_tup {k n : Nat} {ms : List PyData → Ev → M Ev} (hc : X.calm = true) (h : SGs X ws es ms) (hn : (assignEach es X.env).length = n := by rfl) (hst : (assignEach es X.env).findIdx? (·.1) = none := by rfl) : SG w X ws (.Tuple es k pos) (gTupD n ms) := fun g H0 F0 =>
  (pg_tup hc (h g H0 F0) hn hst).imp fun v σ H Q ⟨ρ, F, st, d, ρ', st', b, sl, r, e, q⟩ => by
  cases d with
  | tuple ds =>
    have e' : (if ds.length = n then ms ds ρ else lft none) st = some (ρ', st') := e
    by_cases hl : ds.length = n
    · rw [if_pos hl] at e'
      obtain ⟨a, xs, rfl, h1, h2⟩ := r.tup
      exact ⟨_, _, rfl, Same.sqT b.sub h1, by rw [h2.length]; exact hl, ρ, F, st, ds, ρ', st', b, sl, h2, e', q⟩
    · rw [if_neg hl] at e'; cases e'
  | none => cases e
  | bool _ => cases e
  | int _ => cases e
  | str _ => cases e
  | list _ => cases e
  | dict _ => cases e
/-- target = value -/
def mAsg (g : PyData → Ev → M Ev) (m : Ev → M PyData) : Ev → M Fl := fun ρ => do let d ← m ρ; let ρ' ← g d ρ; pure (.nx ρ')
theorem ss_asg {mg : PyData → Ev → M Ev} (he : SE X e m) (hg : SG false X ws tg mg) (hs : swapsWithSole [tg] e pos.line X.env = pure false := by rfl) (hw : swappedStores [tg] e X.env = pure none := by rfl)
    (h1 : (assignEach [tg] X.env).map (·.2) = [assign tg X.env] := by rfl) : SS X (.Assign [tg] e pos) (mAsg mg m) := fun g H0 F0 => (ps_asg (he g H0 F0) (hg g H0 F0) hs hw h1).imp fun D σ H ⟨ρ, F, st, fl, st', b, sl, e, q⟩ => by
  obtain ⟨d, st1, e1, e2⟩ := bnd e
  obtain ⟨ρ1, st2, e3, e4⟩ := bnd e2
  obtain ⟨rfl, rfl⟩ := purs e4
  exact ⟨ρ, F, st, d, st1, b, sl, e1, fun v H' F' b' r => ⟨ρ, F', st1, d, ρ1, st', b.trans b', sl.step b'.stp, .inl r, e3, fun σ2 H2 F2 b2 s2 _ => q σ2 H2 F2 ((b.trans b').trans b2) (b'.stp.fr.trans b2.stp.fr) s2⟩⟩

/-! ### while -/
def whileM : Nat → (Ev → M Bool) → (Ev → M Fl) → Ev → M Fl
  | 0, _, _, _ => lft none
  | n + 1, c, b, ρ => do
    if (← c ρ) then
      match ← b ρ with
      | .nx ρ' => whileM n c b ρ'
      | .ct ρ' => whileM n c b ρ'
      | .bk ρ' => pure (.nx ρ')
      | .rt d => pure (.rt d)
    else pure (.nx ρ)
theorem ss_while (n : Nat) {mt : Ev → M Bool} (hp : PassesOwn (model X.prog X.w) X.A X.env X.xe) (hc : STs X c mt) (hb : SSs X body m1) : SS X (.While c body [] pos) (whileM n mt m1) := fun g H0 F0 => (ps_while hp (hc g H0 F0) (hb g H0 F0)).imp fun D σ H ⟨ρ, F, st, fl, st', b, sl, e, q⟩ => by
  refine ⟨fun k σ H => ∃ ρ F1 st, Bs g H0 F0 H F1 st ∧ Same F F1 ∧ Slots X.K g H0 H F1 σ ρ ∧ whileM k mt m1 ρ st = some (fl, st'), ⟨n, ρ, F, st, b, .refl _, sl, e⟩, ?_⟩
  rintro k σ1 H1 ⟨ρ1, F1, st1, b1, p1, s1, e1⟩
  cases k with
  | zero => cases e1
  | succ k =>
    obtain ⟨kb, st2, e2, e3⟩ := bnd e1
    refine ⟨ρ1, F1, st1, kb, st2, b1, s1, e2, fun H2 F2 b2 => ?_⟩
    cases kb with
    | false =>
      obtain ⟨rfl, rfl⟩ := purs e3
      exact q σ1 H2 F2 (b1.trans b2) (p1.trans b2.stp.fr) (s1.step b2.stp)
    | true =>
      obtain ⟨fl1, st3, e4, e5⟩ := bnd e3
      refine ⟨fun σ' H' => ∃ ρ' F' st, Bs g H0 F0 H' F' st ∧ Same F F' ∧ Slots X.K g H0 H' F' σ' ρ' ∧ whileM k mt m1 ρ' st = some (fl, st'), fun σ' H' h => ⟨k, Nat.lt_succ_self k, h⟩, ρ1, F2, st2, fl1, st3, b1.trans b2, s1.step b2.stp, e4, ?_⟩
      cases fl1 with
      | nx ρ' => exact fun σ' H' F' b' p' s' => ⟨ρ', F', st3, b', (p1.trans b2.stp.fr).trans p', s', e5⟩
      | ct ρ' => exact fun σ' H' F' b' p' s' => ⟨ρ', F', st3, b', (p1.trans b2.stp.fr).trans p', s', e5⟩
      | bk ρ' =>
        obtain ⟨rfl, rfl⟩ := purs e5
        exact q.mono (p1.trans b2.stp.fr)
      | rt d =>
        obtain ⟨rfl, rfl⟩ := purs e5
        exact q.mono (p1.trans b2.stp.fr)

/-! ### for -/
def forM : List PyData → (PyData → Ev → M Fl) → Ev → M Fl
  | [], _, ρ => pure (.nx ρ)
  | d :: ds, f, ρ => do
    match ← f d ρ with
    | .nx ρ' => forM ds f ρ'
    | .ct ρ' => forM ds f ρ'
    | .bk ρ' => pure (.nx ρ')
    | .rt d => pure (.rt d)
def mFor (mi : Ev → M (List PyData)) (g : PyData → Ev → M Ev) (mb : Ev → M Fl) : Ev → M Fl := fun ρ => do let ds ← mi ρ; forM ds (fun d ρ => do let ρ' ← g d ρ; mb ρ') ρ
theorem ss_for {mi : Ev → M (List PyData)} {mg : PyData → Ev → M Ev} (hp : PassesOwn (model X.prog X.w) X.A X.env X.xe) (hc : X.calm = true) (hi : SI w X tg e mi) (hg : SG w X ws tg mg) (hb : SSs X body m1)
    (hs : ∀ x, foldedSetIterable e X.env x = pure x := by intro _; rfl) : SS X (.For tg e body [] pos) (mFor mi mg m1) := fun g H0 F0 => (ps_for hp hc (hi g H0 F0) (hg g H0 F0) (hb g H0 F0) hs).imp fun D σ H ⟨ρ, F, st, fl, st', b, sl, e, q⟩ => by
  obtain ⟨ds, st1, e1, e2⟩ := bnd e
  refine ⟨ρ, F, st, ds, st1, b, sl, e1, fun J H1 F1 b1 ok => ?_⟩
  refine ⟨fun i k σ H => k = ds.length - i ∧ ∃ ρ F2 st, Bs g H0 F0 H F2 st ∧ Same F1 F2 ∧ Slots X.K g H0 H F2 σ ρ ∧ forM (ds.drop i) (fun d ρ => do let ρ' ← mg d ρ; m1 ρ') ρ st = some (fl, st'),
    ⟨ds.length, by simp, ρ, F1, st1, b.trans b1, .refl _, sl.step b1.stp, by rw [List.drop_zero]; exact e2⟩, ?_⟩
  rintro i k σ2 H2 ⟨rfl, ρ2, F2, st2, b2, p2, s2, e3⟩
  obtain ⟨go, stop⟩ := ok i g H0 F0 H2 F2 st2 b2 p2
  by_cases hl : i < ds.length
  · have hd : ds[i]? = some ds[i] := List.getElem?_eq_getElem hl
    rw [List.drop_eq_getElem_cons hl] at e3
    obtain ⟨fl1, st3, e4, e5⟩ := bnd e3
    obtain ⟨ρ3, st4, e6, e7⟩ := bnd e4
    obtain ⟨hgo, hy⟩ := go _ hd
    refine .inr ⟨hgo, fun σ' H' => ∃ ρ' F' st, Bs g H0 F0 H' F' st ∧ Same F1 F' ∧ Slots X.K g H0 H' F' σ' ρ' ∧ forM (ds.drop (i + 1)) (fun d ρ => do let ρ' ← mg d ρ; m1 ρ') ρ' st = some (fl, st'), fun σ' H' h => ⟨ds.length - (i + 1), by omega, rfl, h⟩, fun x H3 y => ?_⟩
    obtain ⟨F3, b3, r3⟩ := hy x H3 y
    refine ⟨ρ2, F3, st2, _, ρ3, st4, b2.trans b3, s2.step b3.stp, r3, e6, fun σ4 H4 F4 b4 s4 _ => ⟨ρ3, F4, st4, fl1, st3, (b2.trans b3).trans b4, s4, e7, ?_⟩⟩
    have pp : Same F1 F4 := (p2.trans b3.stp.fr).trans b4.stp.fr
    cases fl1 with
    | nx ρ' => exact fun σ' H' F' b' p' s' => ⟨ρ', F', st3, b', pp.trans p', s', e5⟩
    | ct ρ' => exact fun σ' H' F' b' p' s' => ⟨ρ', F', st3, b', pp.trans p', s', e5⟩
    | bk ρ' =>
      obtain ⟨rfl, rfl⟩ := purs e5
      exact q.mono (b1.stp.fr.trans pp)
    | rt d =>
      obtain ⟨rfl, rfl⟩ := purs e5
      exact q.mono (b1.stp.fr.trans pp)
  · rw [List.drop_of_length_le (by omega)] at e3
    obtain ⟨rfl, rfl⟩ := purs e3
    exact .inl ⟨stop (by omega), q σ2 H2 F2 b2 (b1.stp.fr.trans p2) s2⟩

/-! ### what is walked -/
/-- a list or a tuple -/
def iSeq (K : PySem.W.Frag) (tl : TE) : TI := fun σ H R => tl σ H fun x H1 => ∃ a, x = .ref a ∧ (((∃ xs, SqL K H1 a xs) ∧ R (Itl K a) H1) ∨ ((∃ xs, SqT K H1 a xs) ∧ R (Itt K a) H1))
theorem pi_seq {l : Expr} {tl : TE} (hl : PE X l tl) : PI X tg l (iSeq X.K tl) := by
  refine ⟨fun pins s σ H R I h => ?_⟩
  refine thn (hl.run pins s σ H _ I h) fun v s1 ⟨x, H1, I1, r1, q1⟩ => ?_
  obtain ⟨a, e, q | q⟩ := q1
  · obtain ⟨⟨xs, hq⟩, q⟩ := q
    subst e
    cases r1
    obtain ⟨its, rv, p, hz⟩ := I1.list hq
    refine PySem.wpAny_pyIter_list p.isList ?_
    refine ⟨s1.heap.objs.size, [s1.heap.objs.size], _, _, H1, rfl, I1.kept (t' := s1.toks) fun b o e => Heap.get?_push_of_some _ e, turn_list a _, ⟨_, Heap.get?_push_size _ rfl, rfl, rfl⟩, fun b hb => ?_, q⟩
    have e : b = s1.heap.objs.size := by simpa using hb
    subst e
    exact I1.fpOk (Nat.le_refl _) (I1.hok.fresh (Nat.le_refl _))
  · obtain ⟨⟨xs, hq⟩, q⟩ := q
    subst e
    cases r1
    obtain ⟨its, rv, p, hz⟩ := I1.tuple hq
    refine PySem.wpAny_pyIter_tuple (show s1.heap.IsTuple a its.toArray from p) ?_
    refine ⟨s1.heap.objs.size, [s1.heap.objs.size], _, _, H1, rfl, I1.kept (t' := s1.toks) fun b o e => Heap.get?_push_of_some _ e, turn_tuple a _, ⟨_, Heap.get?_push_size _ rfl, rfl, rfl⟩, fun b hb => ?_, q⟩
    have e : b = s1.heap.objs.size := by simpa using hb
    subst e
    exact I1.fpOk (Nat.le_refl _) (I1.hok.fresh (Nat.le_refl _))
def seqD : PyData → Option (List PyData)
  | .list ds => some ds
  | .tuple ds => some ds
  | _ => none
def mSeqI (m : Ev → M PyData) : Ev → M (List PyData) := fun ρ => do let d ← m ρ; lft (seqD d)
theorem itl_ok {K : PySem.W.Frag} {a : Addr} {vs : List V} {ds : List PyData} {R : Gh → Hp → Hp → Prop} (h : ∀ g H F, R g H F → Same F H → H a = some (.lst vs) ∧ RpA K F vs ds) : ItOk w K (Itl K a) ds R := fun i g H0 F0 H2 F2 st2 b2 p => by
  obtain ⟨h1, h2⟩ := h g H2 F2 p b2.sub
  refine ⟨fun d hd => ?_, fun hl => ⟨vs, SqL.of h1, by rw [h2.length]; exact hl⟩⟩
  obtain ⟨v, e1, e2⟩ := h2.get hd
  refine ⟨⟨vs, v, SqL.of h1, e1⟩, fun x H3 y => ?_⟩
  obtain ⟨rfl, y⟩ := y
  have ex := y vs (SqL.of h1)
  rw [e1] at ex
  cases ex
  exact ⟨F2, b2.base, .inl e2⟩
theorem itt_ok {K : PySem.W.Frag} {a : Addr} {vs : List V} {ds : List PyData} {R : Gh → Hp → Hp → Prop} (h : ∀ g H F, R g H F → Same F H → SqT K H a vs ∧ RpA K F vs ds) : ItOk w K (Itt K a) ds R := fun i g H0 F0 H2 F2 st2 b2 p => by
  obtain ⟨h1, h2⟩ := h g H2 F2 p b2.sub
  refine ⟨fun d hd => ?_, fun hl => ⟨vs, h1, by rw [h2.length]; exact hl⟩⟩
  obtain ⟨v, e1, e2⟩ := h2.get hd
  refine ⟨⟨vs, v, h1, e1⟩, fun x H3 y => ?_⟩
  obtain ⟨rfl, y⟩ := y
  have ex := y vs h1
  rw [e1] at ex
  cases ex
  exact ⟨F2, b2.base, .inl e2⟩
theorem si_seq (h : SE X e m) : SI w X tg e (mSeqI m) := fun g H0 F0 => (pi_seq (h g H0 F0)).imp fun σ H R ⟨ρ, F, st, ds, st', b, sl, e, q⟩ => by
  obtain ⟨d, st1, e1, e2⟩ := bnd e
  obtain ⟨e3, rfl⟩ := lfts e2
  refine ⟨ρ, F, st, d, st', b, sl, e1, fun v H' F' b' r => ?_⟩
  cases d with
  | list ds' =>
    cases e3
    cases r with
    | lst h1 h2 => exact ⟨_, rfl, .inl ⟨⟨_, SqL.of (b'.sub _ _ h1)⟩, q _ H' F' b' (itl_ok fun _ H F p s => ⟨s _ _ (p _ _ h1), RpA.mono p _ _ h2⟩)⟩⟩
  | tuple ds' =>
    cases e3
    cases r with
    | tup h1 h2 => exact ⟨_, rfl, .inr ⟨⟨_, Same.sqT b'.sub h1.sq⟩, q _ H' F' b' (itt_ok fun _ H F p s => ⟨Same.sqT s (Same.sqT p h1.sq), RpA.mono p _ _ h2⟩)⟩⟩
  | none => cases e3
  | bool _ => cases e3
  | int _ => cases e3
  | str _ => cases e3
  | dict _ => cases e3
theorem sj_seq (h : SB X e m) : SJ w X tg e (mSeqI m) := fun g H0 F0 => (pi_seq (h g H0 F0)).imp fun σ H R ⟨ρ, F, st, ds, st', b, sl, e, q⟩ => by
  obtain ⟨d, st1, e1, e2⟩ := bnd e
  obtain ⟨e3, rfl⟩ := lfts e2
  refine ⟨ρ, F, st, d, st', b, sl, e1, fun v H' F' b' r => ?_⟩
  cases d with
  | list ds' =>
    cases e3
    rcases r with r | ⟨a, vs, ds', rfl, e2, h, n, n1, n2, r⟩ | ⟨a, ks, kvs, e1, e2, h, n, n1, n2, r⟩
    · cases r with
      | lst h1 h2 => exact ⟨_, rfl, .inl ⟨⟨_, SqL.of (b'.sub _ _ h1)⟩, q _ H' F' b' (itl_ok fun _ H F p s => ⟨s _ _ (p.2.fr _ _ h1), RpA.mono p.2.fr _ _ h2⟩)⟩⟩
    · cases e2
      exact ⟨_, rfl, .inl ⟨⟨_, SqL.of h⟩, q _ H' F' b' (itl_ok fun _ H F p s => ⟨p.2.kp _ _ h n1 n2, RpA.mono p.2.fr _ _ r⟩)⟩⟩
    · cases e2
  | tuple ds' =>
    cases e3
    obtain ⟨a, vs, rfl, h1, h2, h3⟩ := r.tuple b'.sub
    exact ⟨_, rfl, .inr ⟨⟨_, h2⟩, q _ H' F' b' (itt_ok fun _ H F p s => ⟨Same.sqT s (Same.sqT p.2.fr h1.sq), RpA.mono p.2.fr _ _ h3⟩)⟩⟩
  | none => cases e3
  | bool _ => cases e3
  | int _ => cases e3
  | str _ => cases e3
  | dict _ => cases e3
theorem SI.toJ {mi : Ev → M (List PyData)} (h : SI w X tg e mi) : SJ w X tg e mi := fun g H0 F0 => (h g H0 F0).imp fun σ H R ⟨ρ, F, st, ds, st', b, sl, e, q⟩ => ⟨ρ, F, st, ds, st', b, sl, e, fun J H' F' b' ok => q J H' F' b' fun i g2 H0 F0 H2 F2 st2 b2 p => ok i g2 H0 F0 H2 F2 st2 b2 p.2.fr⟩
/-- a range -/
def rngD (lo : Int) (n : Nat) : List PyData := (List.range n).map fun i => .int (lo + (i : Nat))
theorem itr_ok {K : PySem.W.Frag} {lo : Int} {n : Nat} {R : Gh → Hp → Hp → Prop} : ItOk w K (Itr lo n) (rngD lo n) R := fun i g H0 F0 H2 F2 st2 b2 p => by
  refine ⟨fun d hd => ?_, fun hl => (show n ≤ i by simpa [rngD] using hl)⟩
  have hi : i < n := by simpa [rngD] using (List.getElem?_eq_some_iff.mp hd).1
  refine ⟨hi, fun x H3 y => ?_⟩
  obtain ⟨rfl, rfl⟩ := y
  have e : d = .int (lo + i) := by simp [rngD, hi] at hd; exact hd.symm
  subst e
  exact ⟨F2, b2.base, .inl (.int _)⟩
def rng1D : List PyData → Option (List PyData)
  | [.int j] => if -(2 ^ 62) ≤ j ∧ j < 2 ^ 62 then some (rngD 0 j.toNat) else none
  | _ => none
def rng2D : List PyData → Option (List PyData)
  | [.int i, .int j] => if -(2 ^ 62) ≤ i ∧ i < 2 ^ 62 ∧ -(2 ^ 62) ≤ j ∧ j < 2 ^ 62 then some (rngD i (j - i).toNat) else none
  | _ => none
def mRng (φ : List PyData → Option (List PyData)) (ms : Ev → M (List PyData)) : Ev → M (List PyData) := fun ρ => do let ds ← ms ρ; lft (φ ds)
theorem si_range1 {p : Pos} {ms : Ev → M (List PyData)} (hm : X.mg "range" = none) (ha : SA X [a] ms) (hg : Gl X "range" := by rfl) (hs : starEach [a] X.env = [(false, eval a X.env)] := by rfl) : SI w X tg (.Call (.Name "range" p) [a] [] pos) (mRng rng1D ms) := fun g H0 F0 =>
  (pi_range1 hg hm (ha g H0 F0) hs).imp fun σ H R ⟨ρ, F, st, ds, st', b, sl, e, q⟩ => by
  obtain ⟨d, st1, e1, e2⟩ := bnd e
  obtain ⟨e3, rfl⟩ := lfts e2
  refine ⟨ρ, F, st, d, st', b, sl, e1, fun vs H' F' b' r => ?_⟩
  cases r with
  | nil => cases e3
  | cons r1 r2 =>
    cases r2 with
    | cons _ _ => cases r1 <;> cases e3
    | nil =>
      cases r1 <;> first | cases e3 | skip
      rename_i j
      have e4 : (if -(2 ^ 62) ≤ j ∧ j < 2 ^ 62 then some (rngD 0 j.toNat) else none) = some ds := e3
      by_cases hj : -(2 ^ 62) ≤ j ∧ j < 2 ^ 62
      · rw [if_pos hj] at e4
        cases e4
        exact ⟨j, rfl, hj.1, hj.2, q _ H' F' b' itr_ok⟩
      · rw [if_neg hj] at e4; cases e4
theorem si_range2 {p : Pos} {ms : Ev → M (List PyData)} (hm : X.mg "range" = none) (ha : SA X [a, b] ms) (hg : Gl X "range" := by rfl) (hs : starEach [a, b] X.env = [(false, eval a X.env), (false, eval b X.env)] := by rfl) (hs2 : starEach [b] X.env = [(false, eval b X.env)] := by rfl) :
    SI w X tg (.Call (.Name "range" p) [a, b] [] pos) (mRng rng2D ms) := fun g H0 F0 =>
  (pi_range2 hg hm (ha g H0 F0) hs hs2).imp fun σ H R ⟨ρ, F, st, ds, st', b, sl, e, q⟩ => by
  obtain ⟨d, st1, e1, e2⟩ := bnd e
  obtain ⟨e3, rfl⟩ := lfts e2
  refine ⟨ρ, F, st, d, st', b, sl, e1, fun vs H' F' b' r => ?_⟩
  cases r with
  | nil => cases e3
  | cons r1 r2 =>
    cases r2 with
    | nil => cases r1 <;> cases e3
    | cons r3 r4 =>
      cases r4 with
      | cons _ _ => cases r1 <;> cases r3 <;> cases e3
      | nil =>
        cases r1 <;> first | cases e3 | skip
        cases r3 <;> first | cases e3 | skip
        rename_i i j
        have e4 : (if -(2 ^ 62) ≤ i ∧ i < 2 ^ 62 ∧ -(2 ^ 62) ≤ j ∧ j < 2 ^ 62 then some (rngD i (j - i).toNat) else none) = some ds := e3
        by_cases hj : -(2 ^ 62) ≤ i ∧ i < 2 ^ 62 ∧ -(2 ^ 62) ≤ j ∧ j < 2 ^ 62
        · rw [if_pos hj] at e4
          cases e4
          exact ⟨i, j, rfl, hj, q _ H' F' b' itr_ok⟩
        · rw [if_neg hj] at e4; cases e4
end
end DL
end

section
set_option Elab.async false
set_option linter.all false
set_option maxRecDepth 100000
set_option maxHeartbeats 4000000
/-! DL4: comprehensions, subscripts, calls of built-ins, changes of owned lists and dicts. -/
namespace DL
open PySem L2

/-! ### forgetting a block's names -/
def wipeE (ρ : Ev) : List Nat → Ev
  | [] => ρ
  | v :: vs => (wipeE ρ vs).set v .no
theorem wipeE_length (ρ : Ev) : ∀ vs : List Nat, (wipeE ρ vs).length = ρ.length
  | [] => rfl
  | v :: vs => by unfold wipeE; rw [List.length_set, wipeE_length ρ vs]
theorem wipeE_get (ρ : Ev) : ∀ (vs : List Nat) (j : Nat), (wipeE ρ vs)[j]? = if j ∈ vs then ρ[j]?.map (fun _ => .no) else ρ[j]?
  | [], j => by simp [wipeE]
  | v :: vs, j => by
    have ih := wipeE_get ρ vs j
    unfold wipeE
    rw [List.getElem?_set]
    by_cases h : v = j
    · subst h
      rw [if_pos rfl, if_pos (List.mem_cons_self ..), wipeE_length]
      by_cases hl : v < ρ.length
      · rw [if_pos hl, List.getElem?_eq_getElem hl]; rfl
      · rw [if_neg hl, List.getElem?_eq_none (by omega)]; rfl
    · rw [if_neg h, ih]
      have e : (j ∈ v :: vs) ↔ j ∈ vs := by
        rw [List.mem_cons]
        exact ⟨fun z => z.elim (fun z => absurd z.symm h) id, .inr⟩
      by_cases hm : j ∈ vs
      · rw [if_pos hm, if_pos (e.mpr hm)]
      · rw [if_neg hm, if_neg (fun z => hm (e.mp z))]
theorem Slots.wiped {K : PySem.W.Frag} {g : Gh} {H0 H F : Hp} {σ : St} {ρ : Ev} (s : Slots K g H0 H F σ ρ) (vs : List Nat) : Slots K g H0 H F (wipe σ vs) (wipeE ρ vs) where
  len := by rw [wipe_length, wipeE_length]; exact s.len
  at_ := fun i t x e1 e2 => by
    rw [wipeE_get] at e1
    rw [wipe_get] at e2
    by_cases h : i ∈ vs
    · rw [if_pos h] at e1
      obtain ⟨_, _, rfl⟩ := Option.map_eq_some_iff.mp e1
      exact True.intro
    · rw [if_neg h] at e1 e2
      exact s.at_ i t x e1 e2
  dis := fun i j t u a hij e1 e2 o1 o2 e3 e4 => by
    rw [wipeE_get] at e1 e2
    rw [wipe_get] at e3 e4
    by_cases h : i ∈ vs
    · rw [if_pos h] at e1
      obtain ⟨_, _, rfl⟩ := Option.map_eq_some_iff.mp e1
      cases o1
    · by_cases h' : j ∈ vs
      · rw [if_pos h'] at e2
        obtain ⟨_, _, rfl⟩ := Option.map_eq_some_iff.mp e2
        cases o2
      · rw [if_neg h] at e1 e3
        rw [if_neg h'] at e2 e4
        exact s.dis i j t u a hij e1 e2 o1 o2 e3 e4

/-! ### an object that is owned is changed -/
section
variable {K : PySem.W.Frag} {g : Gh} {H0 F0 H F : Hp} {st : Pk} {σ : St} {ρ : Ev} {a : Addr} {o : HO}
theorem Bs.updO (b : Bs g H0 F0 H F st) (h0 : H0 a = none) (hf : F a = none) (n1 : a ≠ g.a) (n2 : a ≠ g.l) : Bs g H0 F0 (upd H a o) F st where
  sub := fun c u h => by rw [upd_ne (ne_of_none h hf)]; exact b.sub c u h
  sa := by rw [upd_ne (Ne.symm n1)]; exact b.sa
  sl := by rw [upd_ne (Ne.symm n2)]; exact b.sl
  na := b.na
  nl := b.nl
  ne := b.ne
  ok := b.ok
  stp := ⟨b.stp.fr, b.stp.nw, fun c u h z1 z2 => by rw [upd_ne (ne_of_none h h0)]; exact b.stp.kp c u h z1 z2, fun c h => by
    by_cases e : c = a
    · subst e; exact h0
    · rw [upd_ne e] at h; exact b.stp.gr c h⟩
theorem Slots.updO {i : Nat} {s s' : Sl} (sl : Slots K g H0 H F σ ρ) (hρ : ρ[i]? = some s) (ho : s.owned = true) (hσ : σ[i]? = some (some (.ref a))) (hs : SlOk K g H0 (upd H a o) F s' (some (.ref a))) : Slots K g H0 (upd H a o) F σ (ρ.set i s') where
  len := by rw [List.length_set]; exact sl.len
  at_ := fun j t x e1 e2 => by
    by_cases hj : j = i
    · subst hj
      rw [List.getElem?_set_self (List.getElem?_eq_some_iff.mp hρ).1] at e1
      rw [hσ] at e2
      cases e1; cases e2; exact hs
    · rw [List.getElem?_set_ne (Ne.symm hj)] at e1
      have k := sl.at_ j t x e1 e2
      cases t with
      | no => exact True.intro
      | vl d => exact k
      | src => exact k
      | scl => exact k
      | ol ds =>
        obtain ⟨c, vs, e, h, n, n1, n2, n3, r⟩ := k
        exact ⟨c, vs, e, by rw [upd_ne (fun z => sl.dis j i _ _ a hj e1 hρ rfl ho (by rw [e2, e, z]) hσ)]; exact h, n, n1, n2, n3, r⟩
      | od ds =>
        obtain ⟨c, vs, e, h, n, n1, n2, n3, r⟩ := k
        exact ⟨c, vs, e, by rw [upd_ne (fun z => sl.dis j i _ _ a hj e1 hρ rfl ho (by rw [e2, e, z]) hσ)]; exact h, n, n1, n2, n3, r⟩
  dis := fun j k t u c hjk e1 e2 o1 o2 e3 e4 => by
    by_cases hj : j = i
    · subst hj
      by_cases hk : k = j
      · exact hjk hk.symm
      · rw [List.getElem?_set_ne (Ne.symm hk)] at e2
        rw [hσ] at e3
        exact sl.dis k j u s c hk e2 hρ o2 ho e4 (by rw [hσ]; exact e3)
    · rw [List.getElem?_set_ne (Ne.symm hj)] at e1
      by_cases hk : k = i
      · subst hk
        rw [hσ] at e4
        exact sl.dis j k t s c hj e1 hρ o1 ho e3 (by rw [hσ]; exact e4)
      · rw [List.getElem?_set_ne (Ne.symm hk)] at e2
        exact sl.dis j k t u c hjk e1 e2 o1 o2 e3 e4
end

section
variable {X : Cx} {w : Bool} {ws : List Nat} {e a b c tg : Expr} {es : List Expr} {m ma mb mc : Ev → M PyData} {pos : Pos} {s : Stmt} {rest body orelse : List Stmt} {m1 m2 : Ev → M Fl}

/-! ### comprehensions -/
def lcM : List PyData → (PyData → M (Option PyData)) → M (List PyData)
  | [], _ => pure []
  | d :: ds, f => do
    match ← f d with
    | none => lcM ds f
    | some x => do let r ← lcM ds f; pure (x :: r)
def lcF (ρ : Ev) (g : PyData → Ev → M Ev) (mt : Ev → M Bool) (me : Ev → M PyData) (vs : List Nat) : PyData → M (Option PyData) := fun d => do
  let ρ1 ← g d (wipeE ρ vs)
  if (← mt ρ1) then (do let x ← me ρ1; pure (some x)) else pure none
def mLc (mi : Ev → M (List PyData)) (g : PyData → Ev → M Ev) (mt : Ev → M Bool) (me : Ev → M PyData) (vs : List Nat) : Ev → M (List PyData) := fun ρ => do
  let ds ← mi ρ
  let ds ← lft (sz ds)
  lcM ds (lcF ρ g mt me vs)
def STS (X : Cx) (ifs : List Expr) (m : Ev → M Bool) : Prop := ∀ g H0 F0, PTs X ifs (tT X.K g H0 F0 m)
def mYes : Ev → M Bool := fun _ => pure true
theorem _root_.L2.PTs.imp {X : Cx} {s : List Expr} {t t' : TT} (h : PTs X s t) (hi : ∀ σ H Q, t' σ H Q → t σ H Q) : PTs X s t' := ⟨fun pins s σ H Q I q => h.run pins s σ H Q I (hi _ _ _ q)⟩
theorem sts_nil : STS X [] mYes := fun g H0 F0 => pts_nil.imp fun σ H Q ⟨ρ, F, st, k, st', b, s, e, q⟩ => by
  obtain ⟨rfl, rfl⟩ := purs e
  exact q H F b.base
theorem sts_one {mt : Ev → M Bool} (h : STs X c mt) : STS X [c] mt := fun g H0 F0 => pts_one (h g H0 F0)
theorem sz_lt {α : Type} {xs ys : List α} (h : sz xs = some ys) : xs = ys ∧ xs.length ≤ 1000000 := by
  unfold sz at h
  by_cases hl : xs.length ≤ 1000000
  · rw [if_pos hl] at h; cases h; exact ⟨rfl, hl⟩
  · rw [if_neg hl] at h; cases h
theorem lc_read {K : PySem.W.Frag} {g : Gh} {H0 F0 : Hp} {mi : Ev → M (List PyData)} {mg : PyData → Ev → M Ev} {mt : Ev → M Bool} {me : Ev → M PyData} {vs : List Nat} {σ : St} {H : Hp} {Q : VK}
    (h : tF K g H0 F0 (mLc mi mg mt me vs) σ H Q) : tLc (tJ w K g H0 F0 mi) (tG w K g H0 F0 vs mg) (tT K g H0 F0 mt) (tE K g H0 F0 me) vs σ H Q := by
  obtain ⟨ρ, F, st, out, st', b, sl, e, q⟩ := h
  obtain ⟨ds0, st1, e1, e2⟩ := bnd e
  obtain ⟨ds, st1b, e3, e4⟩ := bnd e2
  obtain ⟨e5, rfl⟩ := lfts e3
  obtain ⟨rfl, hz⟩ := sz_lt e5
  refine ⟨ρ, F, st, ds0, st1b, b, sl, e1, fun J H1 F1 b1 ok D hD => ?_⟩
  have bD : H D = none := b1.stp.gr D hD
  have nD1 : D ≠ g.a := fun z => by rw [z, b1.sa] at hD; cases hD
  have nD2 : D ≠ g.l := fun z => by rw [z, b1.sl] at hD; cases hD
  have fD : F1 D = none := by
    cases z : F1 D with
    | none => rfl
    | some o => have := b1.sub _ _ z; rw [hD] at this; cases this
  refine ⟨fun i k H2 => k = ds0.length - i ∧ ∃ F2 st2 acc ws r, Bs g H1 F1 H2 F2 st2 ∧ H2 D = some (.lst ws) ∧ F2 D = none ∧ RpA K F2 ws acc ∧ acc.length ≤ i ∧ lcM (ds0.drop i) (lcF ρ mg mt me vs) st2 = some (r, st') ∧ acc ++ r = out,
    ⟨ds0.length, by simp, F1, st1b, [], [], out, b1.base.newH hD, upd_same, fD, .nil, Nat.le_refl _, by rw [List.drop_zero]; exact e4, rfl⟩, ?_⟩
  rintro i k H2 ⟨rfl, F2, st2, acc, ws, r, b2, h2, f2, ra, hl, e6, e7⟩
  obtain ⟨go, stop⟩ := ok i g H1 F1 H2 F2 st2 b2 ⟨rfl, b2.stp⟩
  by_cases hi : i < ds0.length
  · have hd : ds0[i]? = some ds0[i] := List.getElem?_eq_getElem hi
    rw [List.drop_eq_getElem_cons hi] at e6
    obtain ⟨o, st3, e8, e9⟩ := bnd e6
    obtain ⟨ρ1, st4, e10, e11⟩ := bnd e8
    obtain ⟨kb, st5, e12, e13⟩ := bnd e11
    obtain ⟨hgo, hy⟩ := go _ hd
    refine .inr ⟨hgo, fun H' => ∃ F' st2 acc ws r, Bs g H1 F1 H' F' st2 ∧ H' D = some (.lst ws) ∧ F' D = none ∧ RpA K F' ws acc ∧ acc.length ≤ i + 1 ∧ lcM (ds0.drop (i + 1)) (lcF ρ mg mt me vs) st2 = some (r, st') ∧ acc ++ r = out,
      fun H' ⟨F', z⟩ => ⟨ds0.length - (i + 1), by omega, rfl, F', z⟩, fun x H3 y => ?_⟩
    obtain ⟨F3, b3, r3⟩ := hy x H3 y
    have B3 : Bs g H1 F1 H3 F3 st2 := b2.trans b3
    have A3 : Bs g H0 F0 H3 F3 st2 := (b.trans b1).trans B3
    refine ⟨wipeE ρ vs, F3, st2, _, ρ1, st4, A3, (((sl.step b1.stp).step B3.stp).wiped vs), r3, e10, fun σ4 H4 F4 b4 s4 w4 => ⟨by
      rw [w4]
      refine List.ext_getElem? fun j => ?_
      rw [wipe_get, wipe_get]
      by_cases hm : j ∈ vs
      · rw [if_pos hm, if_pos hm]; cases σ[j]? <;> rfl
      · rw [if_neg hm], ρ1, F4, st4, kb, st5, A3.trans b4, s4, e12, fun H5 F5 b5 => ?_⟩⟩
    cases kb with
    | false =>
      obtain ⟨rfl, rfl⟩ := purs e13
      rw [if_neg Bool.false_ne_true]
      have B : Bs g H2 F2 H5 F5 st3 := (b3.trans b4).trans b5
      exact ⟨F5, st3, acc, ws, r, b2.trans B, B.stp.kp _ _ h2 nD1 nD2, B.stp.own f2 h2, RpA.mono B.stp.fr _ _ ra, by omega, e9, e7⟩
    | true =>
      obtain ⟨x', st6, e14, e15⟩ := bnd e13
      obtain ⟨rfl, rfl⟩ := purs e15
      obtain ⟨r', st7, e16, e17⟩ := bnd e9
      obtain ⟨rfl, rfl⟩ := purs e17
      rw [if_pos rfl]
      refine ⟨ρ1, F5, st5, x', st3, (A3.trans b4).trans b5, s4.step b5.stp, e14, fun y' H6 F6 b6 r6 => ?_⟩
      have B : Bs g H2 F2 H6 F6 st3 := ((b3.trans b4).trans b5).trans b6
      have h6 : H6 D = some (.lst ws) := B.stp.kp _ _ h2 nD1 nD2
      have f6 : F6 D = none := B.stp.own f2 h2
      have ra6 := RpA.mono B.stp.fr _ _ ra
      refine ⟨ws, h6, by rw [ra.length]; have : (1000000 : Nat) < sizeLine := by decide
                         omega, F6, st3, acc ++ [x'], ws ++ [y'], r', (b2.trans B).updO hD f6 nD1 nD2, upd_same, f6, ra6.append (.cons r6 .nil), by rw [List.length_append, List.length_singleton]; omega, e16, by rw [List.append_assoc]; exact e7⟩
  · rw [List.drop_of_length_le (by omega)] at e6
    obtain ⟨rfl, rfl⟩ := purs e6
    rw [List.append_nil] at e7
    subst e7
    exact .inl ⟨stop (by omega), q D ws H2 F2 (b1.trans b2) bD h2 f2 ra⟩
theorem sf_lc {scope : Scope} {own : List (Str × Nat)} {elt iter : Expr} {ifs : List Expr} {mi : Ev → M (List PyData)} {mg : PyData → Ev → M Ev} {mt : Ev → M Bool} {me : Ev → M PyData} (hc : X.calm = true) (hN : X.N.Nodup) (hi : SJ w X tg iter mi) (ok : BlkOk X.N X.env.scope scope own)
    (hg : ∀ (s : Shared) (H : Hp) (C : Addr) (cl : List (Str × Addr)) (fp : List Addr), SG w (X.blk s H scope (compEnvC scope cl C X.env) fp) (own.map (·.2)) tg mg) (ht : ∀ (s : Shared) (H : Hp) (C : Addr) (cl : List (Str × Addr)) (fp : List Addr), STS (X.blk s H scope (compEnvC scope cl C X.env) fp) ifs mt)
    (he : ∀ (s : Shared) (H : Hp) (C : Addr) (cl : List (Str × Addr)) (fp : List Addr), SE (X.blk s H scope (compEnvC scope cl C X.env) fp) elt me) (hs : ∀ x, foldedSetIterable iter X.env x = pure x := by intro _; rfl) :
    SF X (.ListComp elt [⟨tg, iter, ifs, 0⟩] scope pos) (mLc mi mg mt me (own.map (·.2))) := fun g H0 F0 =>
  (pe_lc hc hN (hi g H0 F0) ok (fun s H C cl fp => hg s H C cl fp g H0 F0) (fun s H C cl fp => ht s H C cl fp g H0 F0) (fun s H C cl fp => he s H C cl fp g H0 F0) hs).imp fun σ H Q h => lc_read h
/-- name = [..] on one line -/
theorem ss_setLc {i : Nat} {y : Str} {py : Pos} {scope : Scope} {own : List (Str × Nat)} {elt iter : Expr} {ifs : List Expr} {spos : Pos} {mi : Ev → M (List PyData)} {mg : PyData → Ev → M Ev} {mt : Ev → M Bool} {me : Ev → M PyData} (hc : X.calm = true) (hN : X.N.Nodup) (hi : SJ w X tg iter mi) (ok : BlkOk X.N X.env.scope scope own)
    (hsw : swapsWith (.ListComp elt [⟨tg, iter, ifs, 0⟩] scope pos) (some (.Name y py)) spos.line X.env = pure true)
    (hg : ∀ (s : Shared) (H : Hp) (C : Addr) (cl : List (Str × Addr)) (fp : List Addr), SG w (X.blk s H scope (compEnvC scope cl C X.env) fp) (own.map (·.2)) tg mg) (ht : ∀ (s : Shared) (H : Hp) (C : Addr) (cl : List (Str × Addr)) (fp : List Addr), STS (X.blk s H scope (compEnvC scope cl C X.env) fp) ifs mt)
    (he : ∀ (s : Shared) (H : Hp) (C : Addr) (cl : List (Str × Addr)) (fp : List Addr), SE (X.blk s H scope (compEnvC scope cl C X.env) fp) elt me) (hy : X.N[i]? = some y := by rfl) (hyl : X.env.scope.names.lookup y = some .local := by rfl) (hs : ∀ x, foldedSetIterable iter X.env x = pure x := by intro _; rfl) :
    SS X (.Assign [.Name y py] (.ListComp elt [⟨tg, iter, ifs, 0⟩] scope pos) spos) (mSetF i (mLc mi mg mt me (own.map (·.2)))) := fun g H0 F0 =>
  (ps_setLc hc hN hy hyl hsw (hi g H0 F0) ok (fun s H C cl fp => hg s H C cl fp g H0 F0) (fun s H C cl fp => ht s H C cl fp g H0 F0) (fun s H C cl fp => he s H C cl fp g H0 F0) hs).imp fun D σ H ⟨ρ, F, st, fl, st', b, sl, e, q⟩ => by
  obtain ⟨d, st1, e1, e2⟩ := bnd e
  obtain ⟨rfl, rfl⟩ := purs e2
  exact lc_read ⟨ρ, F, st, d, st', b, sl, e1, fun a vs H' F' b' h1 h2 h3 r => q _ H' F' (b.trans b') b'.stp.fr (sl.fresh (fresh_ol b b' h1 h2 h3 r) b'.stp h1)⟩

/-! ### subscripts -/
def ixD : PyData → PyData → Option PyData
  | .list ds, .int i => atI ds i
  | .tuple ds, .int i => atI ds i
  | _, _ => none
theorem RpA.atI {K : PySem.W.Frag} {F : Hp} {vs : List V} {ds : List PyData} {i : Int} {d : PyData} (h : RpA K F vs ds) (e : L2.atI ds i = some d) : ∃ v, L2.atI vs i = some v ∧ Rp K F v d := by
  unfold L2.atI at e ⊢
  rw [h.length]
  obtain ⟨j, e1, e2⟩ := Option.bind_eq_some_iff.mp e
  obtain ⟨v, e3, r⟩ := h.get e2
  exact ⟨v, Option.bind_eq_some_iff.mpr ⟨j, e1, e3⟩, r⟩
theorem se_ix (ha : SB X a ma) (hb : SB X b mb) (hs : PlainIx b := by intro _ _; rfl) : SE X (.Subscript a b pos) (mOp ixD ma mb) := fun g H0 F0 => (pe_ix ix_seq (ha g H0 F0) (hb g H0 F0) hs).imp fun σ H Q ⟨ρ, F, st, d, st', b, s, e, q⟩ =>
  two b s e fun x y v w H2 F2 e3 b2 r1 r2 => by
    cases x <;> cases y <;> first | cases e3 | skip
    · have e4 : atI _ _ = some d := e3
      obtain ⟨a, vs, rfl, h, ra⟩ := r1.list b2.sub
      cases r2.int
      obtain ⟨z, e5, rz⟩ := ra.atI e4
      exact .inl ⟨a, vs, _, z, rfl, rfl, SqL.of h, e5, q z H2 F2 b2 rz⟩
    · have e4 : atI _ _ = some d := e3
      obtain ⟨a, vs, rfl, h1, h2, ra⟩ := r1.tuple b2.sub
      cases r2.int
      obtain ⟨z, e5, rz⟩ := ra.atI e4
      exact .inr (.inl ⟨a, vs, _, z, rfl, rfl, h2, e5, q z H2 F2 b2 rz⟩)

/-! ### slices -/
def cutP (ds : List PyData) (lo hi : Option Int) : List PyData := (ds.drop (HT.sIx ds.length 0 lo)).take (HT.sIx ds.length ds.length hi - HT.sIx ds.length 0 lo)
theorem RpA.cut {K : PySem.W.Frag} {F : Hp} {vs : List V} {ds : List PyData} (h : RpA K F vs ds) (lo hi : Option Int) : RpA K F (cutV vs lo hi) (cutP ds lo hi) := by
  unfold cutV cutP
  rw [h.length]
  exact (h.drop _).take _
def tP (K : PySem.W.Frag) (g : Gh) (H0 F0 : Hp) (m : Ev → M (Option Int)) : TO := fun σ H Q => ∃ ρ F st d st', Bs g H0 F0 H F st ∧ Slots K g H0 H F σ ρ ∧ m ρ st = some (d, st') ∧ ∀ H' F', Bs g H F H' F' st' → Q d H'
def SP' (X : Cx) (e : Option Expr) (m : Ev → M (Option Int)) : Prop := ∀ g H0 F0, PO X e (tP X.K g H0 F0 m)
theorem _root_.L2.PO.imp {X : Cx} {s : Option Expr} {t t' : TO} (h : PO X s t) (hi : ∀ σ H Q, t' σ H Q → t σ H Q) : PO X s t' := ⟨fun pins s σ H Q I q => h.run pins s σ H Q I (hi _ _ _ q)⟩
def mNoP : Ev → M (Option Int) := fun _ => pure none
def asI : PyData → Option Int
  | .int i => some i
  | _ => none
theorem asI_some {d : PyData} {i : Int} (h : asI d = some i) : d = .int i := by
  cases d <;> first | (cases h; rfl) | cases h
def mP (m : Ev → M PyData) : Ev → M (Option Int) := fun ρ => do let d ← m ρ; let i ← lft (asI d); pure (some i)
theorem sp_none : SP' X none mNoP := fun g H0 F0 => po_none.imp fun σ H Q ⟨ρ, F, st, k, st', b, s, e, q⟩ => by
  obtain ⟨rfl, rfl⟩ := purs e
  exact q H F b.base
theorem sp_some (h : SE X e m) : SP' X (some e) (mP m) := fun g H0 F0 => (po_some (h g H0 F0)).imp fun σ H Q ⟨ρ, F, st, k, st', b, s, e, q⟩ => by
  obtain ⟨d, st1, e1, f1⟩ := bnd e
  obtain ⟨i, st2, e2, f2⟩ := bnd f1
  obtain ⟨e4, rfl⟩ := lfts e2
  obtain ⟨rfl, rfl⟩ := purs f2
  cases asI_some e4
  refine ⟨ρ, F, st, _, st', b, s, e1, fun v H' F' b' r => ?_⟩
  cases r
  exact ⟨i, rfl, q H' F' b'⟩
def cutD (d : PyData) (lo hi : Option Int) : Option PyData := match d with
  | .list ds => some (.list (cutP ds lo hi))
  | .tuple ds => some (.tuple (cutP ds lo hi))
  | _ => none
def cutL (d : PyData) (lo hi : Option Int) : Option (List PyData) := match d with
  | .list ds => some (cutP ds lo hi)
  | _ => none
def mCut {α : Type} (φ : PyData → Option Int → Option Int → Option α) (m : Ev → M PyData) (l u : Ev → M (Option Int)) : Ev → M α := fun ρ => do let d ← m ρ; let lo ← l ρ; let hi ← u ρ; lft (φ d lo hi)
theorem cut_two {α : Type} {φ : PyData → Option Int → Option Int → Option α} {ml mu : Ev → M (Option Int)} {K : PySem.W.Frag} {g : Gh} {H0 F0 : Hp} {σ : St} {H F : Hp} {ρ : Ev} {st st' : Pk} {r : α} {R : V → Option Int → Option Int → Hp → Prop}
    (b : Bs g H0 F0 H F st) (s : Slots K g H0 H F σ ρ) (e : mCut φ m ml mu ρ st = some (r, st')) (h : ∀ x v lo hi H2 F2, φ x lo hi = some r → Bs g H F H2 F2 st' → RpB K g H2 F2 v x → R v lo hi H2) :
    tB K g H0 F0 m σ H fun v H1 => tP K g H0 F0 ml σ H1 fun lo H2 => tP K g H0 F0 mu σ H2 fun hi H3 => R v lo hi H3 := by
  obtain ⟨x, st1, e1, f1⟩ := bnd e
  obtain ⟨lo, st2, e2, f2⟩ := bnd f1
  obtain ⟨hi, st3, e3, f3⟩ := bnd f2
  obtain ⟨e4, rfl⟩ := lfts f3
  exact ⟨ρ, F, st, x, st1, b, s, e1, fun v H1 F1 b1 r1 => ⟨ρ, F1, st1, lo, st2, b.trans b1, s.step b1.stp, e2, fun H2 F2 b2 => ⟨ρ, F2, st2, hi, st', (b.trans b1).trans b2, (s.step b1.stp).step b2.stp, e3, fun H3 F3 b3 => h x v lo hi H3 F3 e4 ((b1.trans b2).trans b3) ((r1.step b2.stp).step b3.stp)⟩⟩⟩
def rSlZ (K : PySem.W.Frag) : V → Option Int → Option Int → Hp → VK → Prop := fun x lo hi H Q => ∃ a xs, x = .ref a ∧ SqT K H a xs ∧
  (HT.sIx xs.length 0 lo = 0 ∧ HT.sIx xs.length xs.length hi = xs.length → Q (.ref a) H) ∧ (∀ p o, H p = none → o.dict = none → Q (.ref p) (upd H p (.frz o (.tup (cutV xs lo hi)))))
theorem sl_tupZ : SlR X (rSlZ X.K) := by
  intro pins s σ H x v vl vu lo hi sl Q I rx hs pl pu ⟨a, xs, ex, hx, q1, q2⟩
  subst ex
  obtain rfl : v = Value.ref a := rx
  obtain ⟨its, r, ht, hz⟩ := I.tuple hx
  have hlen : its.toArray.size = xs.length := by rw [List.size_toArray]; exact r.length.symm
  refine ⟨"tuple", _, PyProof.Rows.slot_tuple_getitem.lookup, ht.typeIs, ?_⟩
  by_cases hw : HT.sIx xs.length 0 lo = 0 ∧ HT.sIx xs.length xs.length hi = xs.length
  · exact getItem_tuple_whole ht hs pl pu (by rw [hlen]; exact hw) ⟨.ref a, H, I, rfl, q1 hw⟩
  · refine HT.getItem_tuple_cut ht hs pl pu (by rw [hlen]; exact hw) ?_ (by rw [hlen]; exact hz)
    rw [hlen]
    exact ⟨.ref s.heap.objs.size, _, I.laid (t' := s.toks) (o := .frz _ (.tup (cutV xs lo hi))) (fun b ob q => Heap.get?_push_of_some _ q) (Nat.le_refl _)
      ⟨Heap.get?_push_size _ rfl, Nat.le_trans (cutV_length xs lo hi) hz, _, (r.drop (HT.sIx xs.length 0 lo)).take (HT.sIx xs.length xs.length hi - HT.sIx xs.length 0 lo), PyProof.Rows.IsTup.new _ _⟩, rfl, q2 _ _ (I.hok.fresh (Nat.le_refl _)) rfl⟩
theorem se_cut {lo hi : Option Expr} {p2 : Pos} {ml mu : Ev → M (Option Int)} (he : SB X e m) (hl : SP' X lo ml) (hu : SP' X hi mu) : SE X (.Subscript e (.Slice lo hi none p2) pos) (mCut cutD m ml mu) := fun g H0 F0 =>
  (pe_slice (sl_list.or sl_tupZ) (he g H0 F0) (hl g H0 F0) (hu g H0 F0)).imp fun σ H Q ⟨ρ, F, st, d, st', b, s, e, q⟩ => cut_two b s e fun x v lo hi H2 F2 e3 b2 r1 => by
    cases x <;> first | cases e3 | skip
    · obtain ⟨a, vs, rfl, h, ra⟩ := r1.list b2.sub
      exact .inl ⟨a, vs, rfl, SqL.of h, fun p hp => let ⟨b3, r3⟩ := b2.lstNew hp (ra.cut lo hi); q _ _ _ b3 r3⟩
    · rename_i ds
      obtain ⟨a, vs, rfl, h1, h2, ra⟩ := r1.tuple b2.sub
      refine .inr ⟨a, vs, rfl, h2, fun hw => ?_, fun p o hp ho => let ⟨b3, r3⟩ := b2.tupNew hp ho (ra.cut lo hi); q _ _ _ b3 r3⟩
      have ew : cutP ds lo hi = ds := by
        unfold cutP
        rw [← ra.length, hw.1, hw.2, List.drop_zero, Nat.sub_zero, ra.length, List.take_length]
      rw [ew] at q
      exact q _ H2 F2 b2 (.tup h1 ra)
theorem sf_cut {lo hi : Option Expr} {p2 : Pos} {ml mu : Ev → M (Option Int)} (he : SB X e m) (hl : SP' X lo ml) (hu : SP' X hi mu) : SF X (.Subscript e (.Slice lo hi none p2) pos) (mCut cutL m ml mu) := fun g H0 F0 =>
  (pe_slice sl_list (he g H0 F0) (hl g H0 F0) (hu g H0 F0)).imp fun σ H Q ⟨ρ, F, st, d, st', b, s, e, q⟩ => cut_two b s e fun x v lo hi H2 F2 e3 b2 r1 => by
    cases x <;> first | cases e3 | skip
    obtain ⟨a, vs, rfl, h, ra⟩ := r1.list b2.sub
    exact ⟨a, vs, rfl, SqL.of h, fun p hp => q p _ _ F2 (b2.newH hp) (none_of b2 hp) upd_same (noneF b2 hp) (ra.cut lo hi)⟩

/-! ### calls of built-ins -/
def rC (K : PySem.W.Frag) (φ : List PyData → Option PyData) : List V → Hp → VK → Prop := fun vs H Q => ∃ g F st ds r, Bs g H F H F st ∧ RpBs K g H F vs ds ∧ φ ds = some r ∧ ∀ v H' F', Bs g H F H' F' st → Rp K F' v r → Q v H'
def rCF (K : PySem.W.Frag) (φ : List PyData → Option (List PyData)) : List V → Hp → VK → Prop := fun vs H Q => ∃ g F st ds r, Bs g H F H F st ∧ RpBs K g H F vs ds ∧ φ ds = some r ∧
  ∀ a vs H' F', Bs g H F H' F' st → H a = none → H' a = some (.lst vs) → F' a = none → RpA K F' vs r → Q (.ref a) H'
def CallD (X : Cx) (f : Value) (φ : List PyData → Option PyData) : Prop := CallR X f (rC X.K φ)
def CallF (X : Cx) (f : Value) (φ : List PyData → Option (List PyData)) : Prop := CallR X f (rCF X.K φ)
def mCl {α : Type} (φ : List PyData → Option α) (ms : Ev → M (List PyData)) : Ev → M α := fun ρ => do let ds ← ms ρ; lft (φ ds)
theorem args_of {α : Type} {φ : List PyData → Option α} {ms : Ev → M (List PyData)} {K : PySem.W.Frag} {g : Gh} {H0 F0 : Hp} {σ : St} {H F : Hp} {ρ : Ev} {st st' : Pk} {r : α} {R : List V → Hp → Prop} (b : Bs g H0 F0 H F st) (s : Slots K g H0 H F σ ρ) (e : mCl φ ms ρ st = some (r, st'))
    (h : ∀ ds vs H2 F2, φ ds = some r → Bs g H F H2 F2 st' → RpBs K g H2 F2 vs ds → R vs H2) : tAB K g H0 F0 ms σ H R := by
  obtain ⟨x, st1, e1, f1⟩ := bnd e
  obtain ⟨e4, rfl⟩ := lfts f1
  exact ⟨ρ, F, st, x, st', b, s, e1, fun vs H' F' b' r' => h x vs H' F' e4 b' r'⟩
section
variable {x : Str} {p : Pos} {id T : String} {ms : Ev → M (List PyData)}
theorem se_callB {φ : List PyData → Option PyData} (hc : CallD X (.builtin id) φ) (hm : X.mg x = none) (ha : SAB X (e :: es) ms) (hv : bootBuiltins x = some (.builtin id) := by decide +kernel) (hg : Gl X x := by rfl) (hn : x ≠ "__name__" := by decide) (hdb : (x == ("__debug__" : Str)) = false := by decide)
    (he : starEach (e :: es) X.env = (false, eval e X.env) :: starEach es X.env := by rfl) (hpl : (backTo pos (starEach es X.env)).any (·.1) = false := by rfl) : SE X (.Call (.Name x p) (e :: es) [] pos) (mCl φ ms) := fun g H0 F0 =>
  (pe_callB hc hg hm hv (ha g H0 F0) hn hdb he hpl).imp fun σ H Q ⟨ρ, F, st, d, st', b, s, e, q⟩ => args_of b s e fun ds vs H2 F2 e1 b2 r2 => ⟨g, F2, st', ds, d, b2.base, r2, e1, fun v H3 F3 b3 r3 => q v H3 F3 (b2.trans b3) r3⟩
theorem se_callT {φ : List PyData → Option PyData} (hc : CallD X (.type T) φ) (hm : X.mg x = none) (ha : SAB X (e :: es) ms) (hv : bootBuiltins x = some (.type T) := by decide +kernel) (hg : Gl X x := by rfl) (hn : x ≠ "__name__" := by decide) (hdb : (x == ("__debug__" : Str)) = false := by decide)
    (he : starEach (e :: es) X.env = (false, eval e X.env) :: starEach es X.env := by rfl) (hpl : (backTo pos (starEach es X.env)).any (·.1) = false := by rfl) : SE X (.Call (.Name x p) (e :: es) [] pos) (mCl φ ms) := fun g H0 F0 =>
  (pe_callTy hc hg hm hv (ha g H0 F0) hn hdb he hpl).imp fun σ H Q ⟨ρ, F, st, d, st', b, s, e, q⟩ => args_of b s e fun ds vs H2 F2 e1 b2 r2 => ⟨g, F2, st', ds, d, b2.base, r2, e1, fun v H3 F3 b3 r3 => q v H3 F3 (b2.trans b3) r3⟩
/-- a built-in function that the module has imported -/
theorem se_callG {φ : List PyData → Option PyData} (hc : CallD X (.builtin id) φ) (hm : X.mg x = some (.builtin id)) (ha : SAB X (e :: es) ms) (hg : Gl X x := by rfl) (hdb : (x == ("__debug__" : Str)) = false := by decide)
    (he : starEach (e :: es) X.env = (false, eval e X.env) :: starEach es X.env := by rfl) (hpl : (backTo pos (starEach es X.env)).any (·.1) = false := by rfl) : SE X (.Call (.Name x p) (e :: es) [] pos) (mCl φ ms) := fun g H0 F0 =>
  (pe_callBfun hc hg hm (ha g H0 F0) hdb he hpl).imp fun σ H Q ⟨ρ, F, st, d, st', b, s, e, q⟩ => args_of b s e fun ds vs H2 F2 e1 b2 r2 => ⟨g, F2, st', ds, d, b2.base, r2, e1, fun v H3 F3 b3 r3 => q v H3 F3 (b2.trans b3) r3⟩
theorem sf_callB {φ : List PyData → Option (List PyData)} (hc : CallF X (.builtin id) φ) (hm : X.mg x = none) (ha : SAB X (e :: es) ms) (hv : bootBuiltins x = some (.builtin id) := by decide +kernel) (hg : Gl X x := by rfl) (hn : x ≠ "__name__" := by decide) (hdb : (x == ("__debug__" : Str)) = false := by decide)
    (he : starEach (e :: es) X.env = (false, eval e X.env) :: starEach es X.env := by rfl) (hpl : (backTo pos (starEach es X.env)).any (·.1) = false := by rfl) : SF X (.Call (.Name x p) (e :: es) [] pos) (mCl φ ms) := fun g H0 F0 =>
  (pe_callB hc hg hm hv (ha g H0 F0) hn hdb he hpl).imp fun σ H Q ⟨ρ, F, st, d, st', b, s, e, q⟩ => args_of b s e fun ds vs H2 F2 e1 b2 r2 => ⟨g, F2, st', ds, d, b2.base, r2, e1, fun a vs H3 F3 b3 h1 h2 h3 r3 => q a vs H3 F3 (b2.trans b3) (none_of b2 h1) h2 h3 r3⟩
theorem sf_callT {φ : List PyData → Option (List PyData)} (hc : CallF X (.type T) φ) (hm : X.mg x = none) (ha : SAB X (e :: es) ms) (hv : bootBuiltins x = some (.type T) := by decide +kernel) (hg : Gl X x := by rfl) (hn : x ≠ "__name__" := by decide) (hdb : (x == ("__debug__" : Str)) = false := by decide)
    (he : starEach (e :: es) X.env = (false, eval e X.env) :: starEach es X.env := by rfl) (hpl : (backTo pos (starEach es X.env)).any (·.1) = false := by rfl) : SF X (.Call (.Name x p) (e :: es) [] pos) (mCl φ ms) := fun g H0 F0 =>
  (pe_callTy hc hg hm hv (ha g H0 F0) hn hdb he hpl).imp fun σ H Q ⟨ρ, F, st, d, st', b, s, e, q⟩ => args_of b s e fun ds vs H2 F2 e1 b2 r2 => ⟨g, F2, st', ds, d, b2.base, r2, e1, fun a vs H3 F3 b3 h1 h2 h3 r3 => q a vs H3 F3 (b2.trans b3) (none_of b2 h1) h2 h3 r3⟩
end

/-! ### owned lists and dicts changed -/
def olAt (ρ : Ev) (i : Nat) : Option (List PyData) := match ρ[i]? with
  | some (.ol ds) => some ds
  | _ => none
theorem olAt_some {ρ : Ev} {i : Nat} {ds : List PyData} (h : olAt ρ i = some ds) : ρ[i]? = some (.ol ds) := by
  unfold olAt at h
  cases z : ρ[i]? with
  | none => rw [z] at h; cases h
  | some s => rw [z] at h; cases s <;> first | (cases h; rfl) | cases h
def odAt (ρ : Ev) (i : Nat) : Option (List (PyData × PyData)) := match ρ[i]? with
  | some (.od ds) => some ds
  | _ => none
theorem odAt_some {ρ : Ev} {i : Nat} {ds : List (PyData × PyData)} (h : odAt ρ i = some ds) : ρ[i]? = some (.od ds) := by
  unfold odAt at h
  cases z : ρ[i]? with
  | none => rw [z] at h; cases h
  | some s => rw [z] at h; cases s <;> first | (cases h; rfl) | cases h
def szI {α : Type} (n : Nat) (x : α) : Option α := if n < 1000000 then some x else none
theorem szI_some {α : Type} {n : Nat} {x y : α} (h : szI n x = some y) : x = y ∧ n < 1000000 := by
  unfold szI at h
  by_cases hl : n < 1000000
  · rw [if_pos hl] at h; cases h; exact ⟨rfl, hl⟩
  · rw [if_neg hl] at h; cases h
theorem line6 {n : Nat} (h : n < 1000000) : n < sizeLine := by have : (1000000 : Nat) < sizeLine := by decide
                                                               omega
def mAppend (i : Nat) (m : Ev → M PyData) : Ev → M Fl := fun ρ => do
  let ds ← lft (olAt ρ i)
  let d ← m ρ
  let ds ← lft (szI ds.length (ds ++ [d]))
  pure (.nx (ρ.set i (.ol ds)))
theorem ss_append {i : Nat} {x : Str} {xp apos cpos : Pos} (he : SE X e m) (hv : PE X (.Name x xp) (tVar i)) (hs : swapsWith (.Call (.Attribute (.Name x xp) "append" apos) [e] [] cpos) none pos.line X.env = pure false := by rfl)
    (hbase : attributeBase (.Name x xp) "append" X.env (eval (.Name x xp) X.env) = eval (.Name x xp) X.env := by rfl)
    (hfew : ((backTo cpos (starEach [e] X.env)).all (fun x => !x.1) && (backToKw cpos (keywordEach [] X.env)).all (fun x => x.1.isSome)
      && decide (([e] : List Expr).length + ([] : List Keyword).length + (if ([] : List Keyword).isEmpty then 0 else 1) < 30)) = true := by rfl)
    (hline : (apos.endLine == cpos.line) = true := by rfl) (hst : starEach [e] X.env = (false, eval e X.env) :: starEach [] X.env := by rfl) (hplain : (backTo cpos (starEach [] X.env)).any (·.1) = false := by rfl) :
    SS X (.Expr (.Call (.Attribute (.Name x xp) "append" apos) [e] [] cpos) pos) (mAppend i m) := fun g H0 F0 =>
  (ps_expr (pe_bm PySem.F.plainAttrs_list PySem.F.slot_list_append PySem.F.type_list_append mt_append hv (pa_cons (he g H0 F0) pa_nil hst) hbase hfew hline hst hplain) hs).imp fun D σ H ⟨ρ, F, st, fl, st', b, sl, e, q⟩ => by
  obtain ⟨ds, st1, e1, f1⟩ := bnd e
  obtain ⟨e2, rfl⟩ := lfts e1
  obtain ⟨d, st2, e3, f2⟩ := bnd f1
  obtain ⟨ds2, st3, e4, f3⟩ := bnd f2
  obtain ⟨e5, rfl⟩ := lfts e4
  obtain ⟨rfl, hz⟩ := szI_some e5
  obtain ⟨rfl, rfl⟩ := purs f3
  have hρ := olAt_some e2
  obtain ⟨y, hσ, a, vs, rfl, h, n, n1, n2, n3, r⟩ := sl.get hρ
  refine ⟨_, hσ, .inl ⟨rfl, vs, SqL.of h⟩, ρ, F, st1, d, st', b, sl, e3, fun w H' F' b' rw' => ?_⟩
  have h' := b'.stp.kp _ _ h n1 n2
  have n' := b'.stp.own n h
  refine ⟨a, vs, w, rfl, rfl, h', line6 (by rw [r.length]; exact hz), ?_⟩
  exact q σ _ F' ((b.trans b').updO n3 n' n1 n2) b'.stp.fr ((sl.step b'.stp).updO hρ rfl hσ ⟨a, _, rfl, upd_same, n', n1, n2, n3, (RpA.mono b'.stp.fr _ _ r).append (.cons rw' .nil)⟩)
def extD : List PyData → PyData → Option (List PyData)
  | ds, .list es => szI (ds.length + es.length) (ds ++ es)
  | _, _ => none
def mExtend (i : Nat) (m : Ev → M PyData) : Ev → M Fl := fun ρ => do
  let ds ← lft (olAt ρ i)
  let d ← m ρ
  let ds ← lft (extD ds d)
  pure (.nx (ρ.set i (.ol ds)))
theorem ss_extend {i : Nat} {x : Str} {xp apos cpos : Pos} (he : SB X e m) (hv : PE X (.Name x xp) (tVar i)) (hs : swapsWith (.Call (.Attribute (.Name x xp) "extend" apos) [e] [] cpos) none pos.line X.env = pure false := by rfl)
    (hbase : attributeBase (.Name x xp) "extend" X.env (eval (.Name x xp) X.env) = eval (.Name x xp) X.env := by rfl)
    (hfew : ((backTo cpos (starEach [e] X.env)).all (fun x => !x.1) && (backToKw cpos (keywordEach [] X.env)).all (fun x => x.1.isSome)
      && decide (([e] : List Expr).length + ([] : List Keyword).length + (if ([] : List Keyword).isEmpty then 0 else 1) < 30)) = true := by rfl)
    (hline : (apos.endLine == cpos.line) = true := by rfl) (hst : starEach [e] X.env = (false, eval e X.env) :: starEach [] X.env := by rfl) (hplain : (backTo cpos (starEach [] X.env)).any (·.1) = false := by rfl) :
    SS X (.Expr (.Call (.Attribute (.Name x xp) "extend" apos) [e] [] cpos) pos) (mExtend i m) := fun g H0 F0 =>
  (ps_expr (pe_bm PySem.F.plainAttrs_list PySem.F.slot_list_extend PySem.F.type_list_extend mt_extend hv (pa_cons (he g H0 F0) pa_nil hst) hbase hfew hline hst hplain) hs).imp fun D σ H ⟨ρ, F, st, fl, st', b, sl, e, q⟩ => by
  obtain ⟨ds, st1, e1, f1⟩ := bnd e
  obtain ⟨e2, rfl⟩ := lfts e1
  obtain ⟨d, st2, e3, f2⟩ := bnd f1
  obtain ⟨ds2, st3, e4, f3⟩ := bnd f2
  obtain ⟨e5, rfl⟩ := lfts e4
  obtain ⟨rfl, rfl⟩ := purs f3
  cases d with
  | list es =>
    obtain ⟨rfl, hz⟩ := szI_some (show szI (ds.length + es.length) (ds ++ es) = some ds2 from e5)
    have hρ := olAt_some e2
    obtain ⟨y, hσ, a, vs, rfl, h, n, n1, n2, n3, r⟩ := sl.get hρ
    refine ⟨_, hσ, .inl ⟨rfl, vs, SqL.of h⟩, ρ, F, st1, _, st', b, sl, e3, fun w H' F' b' rw' => ?_⟩
    have h' := b'.stp.kp _ _ h n1 n2
    have n' := b'.stp.own n h
    obtain ⟨c, zs, rfl, hc, rc⟩ := rw'.list b'.sub
    refine ⟨a, c, vs, zs, rfl, rfl, h', hc, Nat.le_of_lt (line6 (by rw [r.length, rc.length]; exact hz)), ?_⟩
    exact q σ _ F' ((b.trans b').updO n3 n' n1 n2) b'.stp.fr ((sl.step b'.stp).updO hρ rfl hσ ⟨a, _, rfl, upd_same, n', n1, n2, n3, (RpA.mono b'.stp.fr _ _ r).append rc⟩)
  | none => cases e5
  | bool _ => cases e5
  | int _ => cases e5
  | str _ => cases e5
  | tuple _ => cases e5
  | dict _ => cases e5
end
end DL
end

section
set_option Elab.async false
set_option linter.all false
set_option maxRecDepth 100000
set_option maxHeartbeats 4000000
/-! DL5: defs of one's own, by mirrors; the operators and built-ins on data. -/
namespace DL
open PySem PySem.Spec PyProof.Rows L2

/-! ### a def, where nothing is being shown (repr) -/
structure FnG (P : Program) (w : World) (K : PySem.W.Frag) (mg : Str → Option Value) (base : Heap) (k : Nat) (f : Addr) (fd : FuncData) (ps : List Str) (sp : List V → Hp → VK → Prop) : Prop where
  len : ∀ vs H Q, sp vs H Q → vs.length = ps.length
  run : ∀ (A : Around) (outer : List Env) (s : Shared) (H : Hp) (args : Args) (us : List Value) (vs : List V) (Q : VK), Room k A → A.guards = some [] → Env0 P w K mg base A outer s H → BindsTo s fd args (ps.zip us) → Vals vs us → sp vs H Q →
    codeAny (model P w) A (.call (.ref f) args) (CR CX0 outer P w H s Q E0) s
theorem FnG.mono {P : Program} {w : World} {K : PySem.W.Frag} {mg : Str → Option Value} {base : Heap} {j k : Nat} {f : Addr} {fd : FuncData} {ps : List Str} {sp : List V → Hp → VK → Prop} (F : FnG P w K mg base j f fd ps sp) (h : j ≤ k) : FnG P w K mg base k f fd ps sp :=
  ⟨F.len, fun A outer s H args us vs Q hr => F.run A outer s H args us vs Q (hr.mono h)⟩
theorem FnG.imp {P : Program} {w : World} {K : PySem.W.Frag} {mg : Str → Option Value} {base : Heap} {k : Nat} {f : Addr} {fd : FuncData} {ps : List Str} {sp sp' : List V → Hp → VK → Prop} (F : FnG P w K mg base k f fd ps sp) (h : ∀ vs H Q, sp' vs H Q → sp vs H Q) : FnG P w K mg base k f fd ps sp' :=
  ⟨fun vs H Q q => F.len vs H Q (h _ _ _ q), fun A outer s H args us vs Q hr hg he hb hv hs => F.run A outer s H args us vs Q hr hg he hb hv (h _ _ _ hs)⟩

section
variable {X : Cx} {k : Nat} {f : Addr} {fd : FuncData} {ps : List Str} {sp : List V → Hp → VK → Prop} {x : Str} {p pos : Pos} {e : Expr} {es : List Expr} {t : TA}
theorem runG {pins : List (Addr × Obj)} {σ : L2.St} {H : Hp} {s : Shared} {Q : VK} {us : List Value} {vs : List V} (F : FnG X.prog X.w X.K X.mg X.base k f fd ps sp) (hr : Room k X.A) (hgu : X.A.guards = some []) (hb : Binds X.K fd ps [])
    (I : Inv X pins σ H s) (r : Vals vs us) (h : sp vs H Q) : wpAny (model X.prog X.w) X.A (call (.ref f) us) (EP X pins σ Q) X.xe s := by
  have hl : (us ++ []).length = ps.length := by rw [List.append_nil, ← r.length]; exact F.len _ _ _ h
  have hbind := hb s us I.kIn hl
  rw [List.append_nil] at hbind
  refine wpAny_call (codeAny_mono (F.run X.A X.stack s H ⟨us, []⟩ us vs Q hr hgu I.env0 hbind r h) fun res s' hq => ?_)
  match res, hq with
  | .ok (.ret u), hq => exact I.after hq
  | .ok .next, hq => exact False.elim hq
  | .ok .brk, hq => exact False.elim hq
  | .ok .cont, hq => exact False.elim hq
  | .error e, hq => exact False.elim hq
theorem pe_callG (F : FnG X.prog X.w X.K X.mg X.base k f fd ps sp) (hr : Room k X.A) (hgu : X.A.guards = some []) (hm : X.mg x = some (.ref f)) (hk : PySem.W.keepIn X.K (.ref f) = true) (hb : Binds X.K fd ps [])
    (ha : PA X (e :: es) t) (hg : Gl X x := by rfl) (hdb : (x == ("__debug__" : Str)) = false := by decide) (he : starEach (e :: es) X.env = (false, eval e X.env) :: starEach es X.env := by rfl) (hpl : (backTo pos (starEach es X.env)).any (·.1) = false := by rfl) :
    PE X (.Call (.Name x p) (e :: es) [] pos) (fun σ H Q => t σ H fun vs H1 => sp vs H1 Q) := ⟨fun pins s σ H Q I h =>
  wpAny_Call_Name_kw (ld_glob I hg hm (PySem.W.callWith_K (h₀ := X.base) I.ok.mod.kin hk (thn (ha.run pos pins s σ H _ I h) fun us s1 ⟨vs, H1, I1, r, q⟩ => ⟨I1.kIn, runG F hr hgu hb I1 r q⟩) he hpl) hdb)⟩
theorem pe_callG0 (F : FnG X.prog X.w X.K X.mg X.base k f fd ps sp) (hr : Room k X.A) (hgu : X.A.guards = some []) (hm : X.mg x = some (.ref f)) (hk : PySem.W.keepIn X.K (.ref f) = true) (hb : Binds X.K fd ps [])
    (hg : Gl X x := by rfl) (hdb : (x == ("__debug__" : Str)) = false := by decide) : PE X (.Call (.Name x p) [] [] pos) (fun _ H Q => sp [] H Q) := ⟨fun pins s σ H Q I h =>
  wpAny_Call_Name_kw (ld_glob I hg hm (PySem.W.callWith_K0 I.kIn hk (runG (us := []) F hr hgu hb I .nil h)) hdb)⟩
end
/-- the rule: a def by its body -/
theorem fnG_of {P : Program} {w : World} {K : PySem.W.Frag} {mg : Str → Option Value} {base : Heap} {k : Nat} {f : Addr} {qual x : Str} {st : Stmt} {fd : FuncData} {N ps : List Str} {sp : List V → Hp → VK → Prop} (F : Fun K x qual st f fd) (S : FnScope N ps (defScope st))
    (len : ∀ vs H Q, sp vs H Q → vs.length = ps.length)
    (hbody : ∀ (cdv : Value) (A : Around) (outer : List Env) (s : Shared) (H : Hp) (vs : List V) (Q : VK), Room k (A.deeper (envOfC qual (defScope st) s.heap.objs.size f cdv)) → A.guards = some [] → sp vs H Q →
      ∃ t, PSs (cxOf CX0 P w K mg base N qual (defScope st) f cdv A outer s H E0).nox (defBody st) t ∧ t { nx := fun _ H' => Q .non H', rt := Q } (L2.start N vs) H) : FnG P w K mg base (k + 1) f fd ps sp := by
  obtain ⟨oc, od, kV, doc, pm, an, cdv, ct, osl, rfl, lk, hcd⟩ := F.ex
  refine ⟨len, fun A outer s H args us vs Q hr hgu e0 hb r hsp => ?_⟩
  have old : ∀ b o, base.get? b = some o → s.heap.get? b = some o := fun b o e => (e0.bs b o e).1
  have KX : K.In s.heap := e0.mod.kin.keeps old
  obtain ⟨t, ht, hq⟩ := hbody cdv A outer s H vs Q (hr.deeper _) hgu hsp
  refine codeAny_call_function hr.depth (KX _ _ lk) rfl S.co S.gen rfl (PySem.W.codeRec_of KX hcd) (hb _ _ _ _ ?_)
  refine wpAny_newFunctionEnv_cells S.kind (fun ⟨n, v⟩ hy => (S.par n (List.of_mem_zip hy).1).imp id fun q => ⟨q, PySem.W.cellsFrom_some _ _ _ (.inl q)⟩) fun env he s1 x => ?_
  subst he
  refine ⟨(e0.mod.nolimit.keeps old).keeps x.toInCall.keep, codeAny_func ?_⟩
  have I := inv_start (CX := CX0) (E := E0) (qual := qual) (f := f) (cd := cdv) S hr.hd e0 (len _ _ _ hsp) r x
  refine wpAny_mono (ht.nox.run [] s1 (L2.start N vs) H _ I hq) (fun fl s' hs => ?_) fun e s' hs => hs
  match fl, hs with
  | .ret u, ⟨v, σ', H', J, rv, q⟩ => exact ⟨v, H', J.os, J.bare, J.base, J.hok, rv, q⟩
  | .next, ⟨σ', H', J, q⟩ => exact ⟨V.non, H', J.os, J.bare, J.base, J.hok, rfl, q⟩
  | .brk, ⟨_, _, _, q⟩ => exact False.elim q
  | .cont, ⟨_, _, _, q⟩ => exact False.elim q

/-! ### a def's mirror -/
/-- what a def promises by its mirror mf; b: whether its first argument is the source -/
def spD (K : PySem.W.Frag) (g : Gh) (b : Bool) (n : Nat) (mf : List PyData → M PyData) : List V → Hp → VK → Prop := fun vs H Q => vs.length = n ∧ ∃ F st vs' ds d st', Bs g H F H F st ∧ (if b = true then vs = .ref g.a :: vs' else vs = vs') ∧ RpA K F vs' ds ∧ mf ds st = some (d, st') ∧
  ∀ v H' F', Bs g H F H' F' st' → Rp K F' v d → Q v H'
/-- a frame at its start -/
def ev0 (b : Bool) (n : Nat) (ds : List PyData) : Ev := (if b = true then [Sl.src] else []) ++ ds.map Sl.vl ++ List.replicate (n - (ds.length + if b = true then 1 else 0)) .no
def fnM (b : Bool) (n : Nat) (mb : Ev → M Fl) : List PyData → M PyData := fun ds => do
  match ← mb (ev0 b n ds) with
  | .rt d => pure d
  | .nx _ => pure .none
  | _ => lft none
theorem ev0_slots {K : PySem.W.Frag} {g : Gh} {H0 H F : Hp} {N : List Str} {b : Bool} {vs vs' : List V} {ds : List PyData} (hv : if b = true then vs = .ref g.a :: vs' else vs = vs') (r : RpA K F vs' ds) : Slots K g H0 H F (L2.start N vs) (ev0 b N.length ds) := by
  have hl : vs.length = ds.length + (if b = true then 1 else 0) := by
    cases b with
    | true =>
      rw [if_pos rfl] at hv ⊢
      subst hv
      rw [List.length_cons, r.length]
    | false =>
      rw [if_neg Bool.false_ne_true] at hv ⊢
      subst hv
      rw [r.length]; rfl
  have al : ((if b = true then [Sl.src] else []) ++ ds.map Sl.vl).length = vs.length := by
    rw [List.length_append, List.length_map, hl]
    cases b <;> simp <;> omega
  have nown : ∀ (i : Nat) (s : Sl), (ev0 b N.length ds)[i]? = some s → s.owned = false := by
    intro i s e
    have hm : s ∈ ev0 b N.length ds := List.mem_of_getElem? e
    unfold ev0 at hm
    rcases List.mem_append.mp hm with hm | hm
    · rcases List.mem_append.mp hm with hm | hm
      · cases b with
        | true => rw [if_pos rfl] at hm; rw [List.mem_singleton.mp hm]; rfl
        | false => cases hm
      · obtain ⟨d, _, rfl⟩ := List.mem_map.mp hm; rfl
    · rw [(List.mem_replicate.mp hm).2]; rfl
  refine ⟨?_, fun i s x e1 e2 => ?_, fun i j s t a hij e1 e2 o1 o2 _ _ => by rw [nown i s e1] at o1; cases o1⟩
  · unfold L2.start ev0
    rw [List.length_append, List.length_append, List.length_map, List.length_replicate, List.length_replicate, al, hl]
  · unfold ev0 at e1
    unfold L2.start at e2
    by_cases hi : i < vs.length
    · rw [List.getElem?_append_left (by rw [al]; exact hi)] at e1
      rw [List.getElem?_append_left (by rw [List.length_map]; exact hi), List.getElem?_map] at e2
      cases b with
      | true =>
        rw [if_pos rfl] at hv e1
        subst hv
        cases i with
        | zero =>
          cases (show some Sl.src = some s from e1)
          cases (show some (some (V.ref g.a)) = some x from e2)
          rfl
        | succ i =>
          have e1' : (ds.map Sl.vl)[i]? = some s := by simpa using e1
          have e2' : (vs'[i]?).map some = some x := by simpa using e2
          rw [List.getElem?_map] at e1'
          obtain ⟨d, hd, rfl⟩ := Option.map_eq_some_iff.mp e1'
          obtain ⟨v, hv, rfl⟩ := Option.map_eq_some_iff.mp e2'
          obtain ⟨w, hw, rw'⟩ := r.get hd
          rw [hv] at hw; cases hw
          exact ⟨_, rfl, rw'⟩
      | false =>
        rw [if_neg Bool.false_ne_true] at hv e1
        subst hv
        have e1' : (ds.map Sl.vl)[i]? = some s := by simpa using e1
        rw [List.getElem?_map] at e1'
        obtain ⟨d, hd, rfl⟩ := Option.map_eq_some_iff.mp e1'
        obtain ⟨v, hv, rfl⟩ := Option.map_eq_some_iff.mp e2
        obtain ⟨w, hw, rw'⟩ := r.get hd
        rw [hv] at hw; cases hw
        exact ⟨_, rfl, rw'⟩
    · rw [List.getElem?_append_right (by rw [al]; omega)] at e1
      rw [(List.mem_replicate.mp (List.mem_of_getElem? e1)).2]
      exact True.intro
/-- what stands in a def's context -/
structure Gd (X : Cx) (k : Nat) : Prop where
  calm : X.calm = true
  nd : X.N.Nodup
  gu : X.A.guards = some []
  room : Room k X.A
/-- a def keeps its mirror's promise at level k -/
def FnM (P : Program) (w : World) (K : PySem.W.Frag) (mg : Str → Option Value) (base : Heap) (k : Nat) (f : Addr) (fd : FuncData) (ps : List Str) (b : Bool) (mf : List PyData → M PyData) : Prop := ∀ g, FnG P w K mg base k f fd ps (spD K g b ps.length mf)
theorem FnM.mono {P : Program} {w : World} {K : PySem.W.Frag} {mg : Str → Option Value} {base : Heap} {j k : Nat} {f : Addr} {fd : FuncData} {ps : List Str} {b : Bool} {mf : List PyData → M PyData} (F : FnM P w K mg base j f fd ps b mf) (h : j ≤ k) : FnM P w K mg base k f fd ps b mf := fun g => (F g).mono h
theorem fnM_of {P : Program} {w : World} {K : PySem.W.Frag} {mg : Str → Option Value} {base : Heap} {k : Nat} {f : Addr} {qual x : Str} {st : Stmt} {fd : FuncData} {N ps : List Str} {b : Bool} {mb : Ev → M Fl} (F : Fun K x qual st f fd) (S : FnScope N ps (defScope st))
    (hbody : ∀ (cdv : Value) (A : Around) (outer : List Env) (s : Shared) (H : Hp), Gd (cxOf CX0 P w K mg base N qual (defScope st) f cdv A outer s H E0).nox k → SSs (cxOf CX0 P w K mg base N qual (defScope st) f cdv A outer s H E0).nox (defBody st) mb) : FnM P w K mg base (k + 1) f fd ps b (fnM b N.length mb) := fun g =>
  fnG_of F S (fun vs H Q h => h.1) fun cdv A outer s H vs Q hr hgu ⟨hl, F0, st0, vs', ds, d, st', b0, hv, r, e, q⟩ => by
    refine ⟨_, hbody cdv A outer s H ⟨rfl, S.nd, hgu, hr⟩ g H F0, ?_⟩
    obtain ⟨fl, st1, e1, e2⟩ := bnd e
    refine ⟨_, F0, st0, fl, st1, b0, ev0_slots hv r, e1, ?_⟩
    cases fl with
    | nx ρ' => obtain ⟨rfl, rfl⟩ := purs e2; exact fun σ' H' F' b' p s' => q .non H' F' b' .non
    | rt d' => obtain ⟨rfl, rfl⟩ := purs e2; exact fun v H' F' b' p r' => q v H' F' b' r'
    | bk ρ' => cases e2
    | ct ρ' => cases e2
theorem fnM_fail {P : Program} {w : World} {K : PySem.W.Frag} {mg : Str → Option Value} {base : Heap} {k : Nat} {f : Addr} {fd : FuncData} {ps : List Str} {b : Bool} : FnM P w K mg base k f fd ps b (fun _ => lft none) := fun g =>
  ⟨fun vs H Q h => h.1, fun A outer s H args us vs Q hr hgu he hb hv ⟨hl, F0, st0, vs', ds, d, st', b0, hv', r, e, q⟩ => by cases e⟩

section
variable {X : Cx} {k : Nat} {f : Addr} {fd : FuncData} {ps : List Str} {x : Str} {p pos : Pos} {e : Expr} {es : List Expr} {mf : List PyData → M PyData} {ms : Ev → M (List PyData)}
def lenI {α : Type} (n : Nat) (xs : List α) : Option (List α) := if xs.length = n then some xs else none
theorem lenI_some {α : Type} {n : Nat} {xs ys : List α} (h : lenI n xs = some ys) : xs = ys ∧ xs.length = n := by
  unfold lenI at h
  by_cases hl : xs.length = n
  · rw [if_pos hl] at h; cases h; exact ⟨rfl, hl⟩
  · rw [if_neg hl] at h; cases h
def mCall (n : Nat) (mf : List PyData → M PyData) (ms : Ev → M (List PyData)) : Ev → M PyData := fun ρ => do let ds ← ms ρ; let ds ← lft (lenI n ds); mf ds
/-- a call of a def of one's own -/
theorem se_call (F : FnM X.prog X.w X.K X.mg X.base k f fd ps false mf) (hr : Room k X.A) (hgu : X.A.guards = some []) (hm : X.mg x = some (.ref f)) (hk : PySem.W.keepIn X.K (.ref f) = true) (hb : Binds X.K fd ps []) (ha : SA X (e :: es) ms) (hg : Gl X x := by rfl) (hdb : (x == ("__debug__" : Str)) = false := by decide)
    (he : starEach (e :: es) X.env = (false, eval e X.env) :: starEach es X.env := by rfl) (hpl : (backTo pos (starEach es X.env)).any (·.1) = false := by rfl) : SE X (.Call (.Name x p) (e :: es) [] pos) (mCall ps.length mf ms) := fun g H0 F0 =>
  (pe_callG (F g) hr hgu hm hk hb (ha g H0 F0) hg hdb he hpl).imp fun σ H Q ⟨ρ, F, st, d, st', b, s, e, q⟩ => by
    obtain ⟨ds, st1, e1, f1⟩ := bnd e
    obtain ⟨ds2, st2, e2, f2⟩ := bnd f1
    obtain ⟨e3, rfl⟩ := lfts e2
    obtain ⟨rfl, hl⟩ := lenI_some e3
    exact ⟨ρ, F, st, ds, st2, b, s, e1, fun vs H1 F1 b1 r1 => ⟨by rw [r1.length, hl], F1, st2, vs, ds, d, st', b1.base, rfl, r1, f2, fun v H2 F2 b2 r2 => q v H2 F2 (b1.trans b2) r2⟩⟩
theorem se_call0 (F : FnM X.prog X.w X.K X.mg X.base k f fd [] false mf) (hr : Room k X.A) (hgu : X.A.guards = some []) (hm : X.mg x = some (.ref f)) (hk : PySem.W.keepIn X.K (.ref f) = true) (hb : Binds X.K fd [] []) (hg : Gl X x := by rfl) (hdb : (x == ("__debug__" : Str)) = false := by decide) :
    SE X (.Call (.Name x p) [] [] pos) (mCall 0 mf mNil) := fun g H0 F0 =>
  (pe_callG0 (F g) hr hgu hm hk hb hg hdb).imp fun σ H Q ⟨ρ, F, st, d, st', b, s, e, q⟩ => by
    obtain ⟨ds, st1, e1, f1⟩ := bnd e
    obtain ⟨ds2, st2, e2, f2⟩ := bnd f1
    obtain ⟨e3, rfl⟩ := lfts e2
    obtain ⟨rfl, rfl⟩ := purs e1
    obtain ⟨rfl, hl⟩ := lenI_some e3
    exact ⟨rfl, F, st2, [], [], d, st', b.base, rfl, .nil, f2, fun v H2 F2 b2 r2 => q v H2 F2 b2 r2⟩
def srcAt (ρ : Ev) (i : Nat) : Option Unit := match ρ[i]? with
  | some .src => some ()
  | _ => none
theorem srcAt_some {ρ : Ev} {i : Nat} {u : Unit} (h : srcAt ρ i = some u) : ρ[i]? = some .src := by
  unfold srcAt at h
  cases z : ρ[i]? with
  | none => rw [z] at h; cases h
  | some s => rw [z] at h; cases s <;> first | rfl | cases h
/-- .. whose first argument is the source -/
def mCallS (n : Nat) (i : Nat) (mf : List PyData → M PyData) (ms : Ev → M (List PyData)) : Ev → M PyData := fun ρ => do let _ ← lft (srcAt ρ i); let ds ← ms ρ; let ds ← lft (lenI n ds); mf ds
theorem se_callS {n i : Nat} {y : Str} {yp : Pos} (F : FnM X.prog X.w X.K X.mg X.base k f fd ps true mf) (hr : Room k X.A) (hgu : X.A.guards = some []) (hm : X.mg x = some (.ref f)) (hk : PySem.W.keepIn X.K (.ref f) = true) (hb : Binds X.K fd ps []) (hs : PE X (.Name y yp) (tVar i)) (ha : SA X es ms) (hn : ps.length = n + 1 := by rfl) (hg : Gl X x := by rfl) (hdb : (x == ("__debug__" : Str)) = false := by decide)
    (he0 : starEach (.Name y yp :: es) X.env = (false, eval (.Name y yp) X.env) :: starEach es X.env := by rfl) (hpl : (backTo pos (starEach es X.env)).any (·.1) = false := by rfl) : SE X (.Call (.Name x p) (.Name y yp :: es) [] pos) (mCallS n i mf ms) := fun g H0 F0 =>
  (pe_callG (F g) hr hgu hm hk hb (pa_cons hs (ha g H0 F0) he0) hg hdb he0 hpl).imp fun σ H Q ⟨ρ, F, st, d, st', b, s, e, q⟩ => by
    obtain ⟨u, st0, e0, f0⟩ := bnd e
    obtain ⟨e1, rfl⟩ := lfts e0
    obtain ⟨ds, st1, e1', f1⟩ := bnd f0
    obtain ⟨ds2, st2, e2, f2⟩ := bnd f1
    obtain ⟨e3, rfl⟩ := lfts e2
    obtain ⟨rfl, hl⟩ := lenI_some e3
    obtain ⟨y', hσ, hy⟩ := s.get (srcAt_some e1)
    cases (show y' = some (V.ref g.a) from hy)
    exact ⟨_, hσ, ρ, F, st0, ds, st2, b, s, e1', fun vs H1 F1 b1 r1 => ⟨by rw [List.length_cons, r1.length, hl, hn], F1, st2, vs, ds, d, st', b1.base, (by rw [if_pos rfl]), r1, f2, fun v H2 F2 b2 r2 => q v H2 F2 (b1.trans b2) r2⟩⟩
end
end DL
end

section
set_option Elab.async false
set_option linter.all false
set_option maxRecDepth 100000
set_option maxHeartbeats 4000000
/-! DL6: the operators and built-ins on data. -/
namespace DL
open PySem PySem.Spec PyProof.Rows L2

/-! ### data in the heap proper -/
theorem key_reads {h : Heap} : ∀ {k : Key} {v : Value}, keyIs k v = true → Reads h v (keyD k) []
  | .inl i, v, e => by
    rcases keyIs_shape e with ⟨j, t, e1, rfl⟩ | ⟨x, t, e1, rfl⟩
    · cases e1; exact .int i t
    · cases e1
  | .inr x, v, e => by
    rcases keyIs_shape e with ⟨j, t, e1, rfl⟩ | ⟨y, t, e1, rfl⟩
    · cases e1
    · cases e1; exact .str x t
mutual
theorem Rp.reads {X : Cx} {pins : List (Addr × Obj)} {σ : L2.St} {H F : Hp} {s : Shared} (I : Inv X pins σ H s) (sub : Same F H) : ∀ (d : PyData) (v : V) (u : Value), Rp X.K F v d → RelV v u → ∃ as, Reads s.heap u d as
  | .none, _, _, h, r => by cases h; cases r; exact ⟨_, .none⟩
  | .bool b, _, _, h, r => by cases h; cases r; exact ⟨_, .bool b⟩
  | .int i, _, _, h, r => by cases h; obtain ⟨t, rfl⟩ := r; exact ⟨_, .int i t⟩
  | .str x, _, _, h, r => by cases h; obtain ⟨t, rfl⟩ := r; exact ⟨_, .str x t⟩
  | .list ds, _, _, h, r => by
    cases h with
    | lst h1 h2 =>
      cases r
      obtain ⟨its, rv, ⟨o, n, ho, hc, _, hd⟩, _⟩ := I.list (SqL.of (sub _ _ h1))
      obtain ⟨as, hr⟩ := RpA.reads I sub ds _ its h2 rv
      exact ⟨_, .list ho hc hd (by simpa using hr)⟩
  | .tuple ds, _, _, h, r => by
    cases h with
    | tup h1 h2 =>
      cases r
      obtain ⟨its, rv, ⟨o, ho, hc, n, hd⟩, _⟩ := I.tuple (Same.sqT sub h1.sq)
      obtain ⟨as, hr⟩ := RpA.reads I sub ds _ its h2 rv
      exact ⟨_, .tuple ho hc hd (by simpa using hr)⟩
  | .dict kvs, _, _, h, r => by
    cases h with
    | dic h1 h2 =>
      cases r
      obtain ⟨_, _, vs, kv, o, es, ep, e1, e2, e3, e4, e5, _⟩ := (Rd.ok (.inr ⟨_, sub _ _ h1⟩) I.hok)
      obtain ⟨as, bs, h3, h4⟩ := RpK.reads I sub kvs _ vs es.toList h2 kv e5
      exact ⟨_, .dict e1 e2.1 e3 h3 h4⟩
theorem RpA.reads {X : Cx} {pins : List (Addr × Obj)} {σ : L2.St} {H F : Hp} {s : Shared} (I : Inv X pins σ H s) (sub : Same F H) : ∀ (ds : List PyData) (vs : List V) (us : List Value), RpA X.K F vs ds → Vals vs us → ∃ as, ReadsAll s.heap us ds as
  | [], _, _, h, r => by cases h; cases r; exact ⟨_, .nil⟩
  | d :: ds, _, _, h, r => by
    cases h with
    | cons h1 h2 =>
      cases r with
      | cons r1 r2 =>
        obtain ⟨as, q1⟩ := Rp.reads I sub d _ _ h1 r1
        obtain ⟨bs, q2⟩ := RpA.reads I sub ds _ _ h2 r2
        exact ⟨_, .cons q1 q2⟩
theorem RpK.reads {X : Cx} {pins : List (Addr × Obj)} {σ : L2.St} {H F : Hp} {s : Shared} (I : Inv X pins σ H s) (sub : Same F H) : ∀ (kvs : List (PyData × PyData)) (ks : List (Key × V)) (us : List (Key × Value)) (es : List DictEntry), RpK X.K F ks kvs → KV ks us → Pairs (mixKind X.prog X.w) es us →
    ∃ as bs, ReadsAll s.heap (es.map (·.key)) (kvs.map (·.1)) as ∧ ReadsAll s.heap (es.map (·.val)) (kvs.map (·.2)) bs
  | [], _, _, _, h, r, p => by cases h; cases r; cases p; exact ⟨_, _, .nil, .nil⟩
  | (k, d) :: kvs, _, _, _, h, r, p => by
    cases h with
    | @cons k v ks0 _ _ h1 h2 =>
      cases r with
      | cons r1 r2 =>
        cases p with
        | @cons e' kv' es' kvs' p1 p2 p3 =>
          obtain ⟨as, q1⟩ := Rp.reads I sub d _ _ h1 r1.2
          obtain ⟨bs, cs, q2, q3⟩ := RpK.reads I sub kvs _ _ _ h2 r2 p3
          exact ⟨_, _, .cons (key_reads (by rw [show k = _ from r1.1]; exact p1)) q2, .cons (show Reads s.heap e'.val d as by rw [p2]; exact q1) q3⟩
end
theorem RpB.reads {X : Cx} {pins : List (Addr × Obj)} {σ : L2.St} {g : Gh} {H F : Hp} {s : Shared} (I : Inv X pins σ H s) (sub : Same F H) {d : PyData} {v : V} {u : Value} (h : RpB X.K g H F v d) (r : RelV v u) : ∃ as, Reads s.heap u d as := by
  rcases h with h | ⟨a, vs, ds, rfl, rfl, h, n, n1, n2, ra⟩ | ⟨a, ks, kvs, rfl, rfl, h, n, n1, n2, ra⟩
  · exact Rp.reads I sub d v u h r
  · cases r
    obtain ⟨its, rv, ⟨o, n, ho, hc, _, hd⟩, _⟩ := I.list (SqL.of h)
    obtain ⟨as, hr⟩ := RpA.reads I sub ds _ its ra rv
    exact ⟨_, .list ho hc hd (by simpa using hr)⟩
  · cases r
    obtain ⟨_, _, vs, kv, o, es, ep, e1, e2, e3, e4, e5, _⟩ := I.hok _ _ h
    obtain ⟨as, bs, h3, h4⟩ := RpK.reads I sub kvs _ vs es.toList ra kv e5
    exact ⟨_, .dict e1 e2.1 e3 h3 h4⟩

/-! ### repr -/
mutual
theorem Rp.reprs {X : Cx} {pins : List (Addr × Obj)} {σ : L2.St} {H F : Hp} {s : Shared} (I : Inv X pins σ H s) (sub : Same F H) : ∀ (d : PyData) (v : V) (u : Value), Rp X.K F v d → RelV v u → d.showable = true → d.shown.length ≤ sizeLine → ∃ bs, ReadAtMost s.heap d.depth bs ∧ ReprK X.prog X.w bs s.heap d.depth u d.shown
  | .none, _, _, h, r, _, _ => by cases h; cases r; exact ⟨[], (fun _ h => nomatch h), by simp only [PyData.shown]; exact .of_is ReprIs.none _ _ _⟩
  | .bool b, _, _, h, r, _, _ => by cases h; cases r; exact ⟨[], (fun _ h => nomatch h), by simp only [PyData.shown]; exact .of_is (ReprIs.bool b) _ _ _⟩
  | .int i, _, _, h, r, hs, _ => by cases h; obtain ⟨t, rfl⟩ := r; exact ⟨[], (fun _ h => nomatch h), by simp only [PyData.shown]; exact .of_is (ReprIs.int t (by simpa [PyData.showable] using hs)) _ _ _⟩
  | .str x, _, _, h, r, _, hz => by cases h; obtain ⟨t, rfl⟩ := r; exact ⟨[], (fun _ h => nomatch h), by simp only [PyData.shown]; exact .of_is (ReprIs.str x t (by simpa only [PyData.shown] using hz)) _ _ _⟩
  | .list ds, v, u, h, r, hs, hz => by
    obtain ⟨as0, rd⟩ := Rp.reads I sub _ v u h r
    cases h with
    | @lst a vs _ h1 h2 =>
      cases r
      obtain ⟨its, rv, ⟨o, n, ho, hc, _, hd⟩, _⟩ := I.list (SqL.of (sub _ _ h1))
      have hz' : (listText (PyData.shownAll ds)).length ≤ sizeLine := by simpa only [PyData.shown] using hz
      obtain ⟨bs, hb, hk⟩ := RpA.reprs I sub ds _ its h2 rv (by simpa [PyData.showable] using hs) fun t ht => Nat.le_trans (listText_mem_le ht) hz'
      refine ⟨a :: bs, ReadAtMost.cons rd (by simp only [PyData.depth]; omega) hb, ?_⟩
      have hna : a ∉ bs := not_mem_of_deeper rd (by simp only [PyData.depth]; omega) hb
      simp only [PyData.depth, PyData.shown]
      cases its with
      | nil =>
        cases rv
        cases h2
        simp only [PyData.shownAll, listText_nil]
        exact ReprK.listEmpty ho hc hd
      | cons y l => exact ReprK.list ho hc hd hna (by simpa using hk.length_eq) fun i z e => hk.item i z (by simpa using e)
  | .tuple ds, v, u, h, r, hs, hz => by
    obtain ⟨as0, rd⟩ := Rp.reads I sub _ v u h r
    cases h with
    | @tup a vs _ h1 h2 =>
      cases r
      obtain ⟨its, rv, ⟨o, ho, hc, n, hd⟩, _⟩ := I.tuple (Same.sqT sub h1.sq)
      have hz' : (tupleText (PyData.shownAll ds)).length ≤ sizeLine := by simpa only [PyData.shown] using hz
      obtain ⟨bs, hb, hk⟩ := RpA.reprs I sub ds _ its h2 rv (by simpa [PyData.showable] using hs) fun t ht => Nat.le_trans (tupleText_mem_le ht) hz'
      refine ⟨a :: bs, ReadAtMost.cons rd (by simp only [PyData.depth]; omega) hb, ?_⟩
      simp only [PyData.depth, PyData.shown]
      exact ReprK.tuple ho hc hd (not_mem_of_deeper rd (by simp only [PyData.depth]; omega) hb) (by simpa using hk)
  | .dict kvs, v, u, h, r, hs, hz => by
    obtain ⟨as0, rd⟩ := Rp.reads I sub _ v u h r
    cases h with
    | @dic a od ks _ h1 h2 =>
      cases r
      obtain ⟨_, hsys, vs, kv, o, es, ep, e1, e2, e3, e4, e5, _⟩ := (Rd.ok (.inr ⟨_, sub _ _ h1⟩) I.hok)
      have hz' : (dictText (PyData.shownKv kvs)).length ≤ sizeLine := by simpa only [PyData.shown] using hz
      obtain ⟨bs, hb, hk⟩ := RpK.reprs I sub kvs _ vs es.toList h2 kv e5 (by simpa [PyData.showable] using hs) fun t ht => Nat.le_trans (dictText_mem_le ht) hz'
      refine ⟨a :: bs, ReadAtMost.cons rd (by simp only [PyData.depth]; omega) hb, ?_⟩
      simp only [PyData.depth, PyData.shown]
      exact ReprK.dict e1 e2.1 e3 hsys (not_mem_of_deeper rd (by simp only [PyData.depth]; omega) hb) hk
theorem RpA.reprs {X : Cx} {pins : List (Addr × Obj)} {σ : L2.St} {H F : Hp} {s : Shared} (I : Inv X pins σ H s) (sub : Same F H) : ∀ (ds : List PyData) (vs : List V) (us : List Value), RpA X.K F vs ds → Vals vs us → PyData.showableAll ds = true → (∀ t ∈ PyData.shownAll ds, t.length ≤ sizeLine) →
    ∃ bs, ReadAtMost s.heap (PyData.depthAll ds) bs ∧ ReprAllK X.prog X.w bs s.heap (PyData.depthAll ds) us (PyData.shownAll ds)
  | [], _, _, h, r, _, _ => by cases h; cases r; exact ⟨[], (fun _ h => nomatch h), by simp only [PyData.shownAll]; exact .nil⟩
  | d :: ds, _, _, h, r, hs, hz => by
    have hs' : d.showable = true ∧ PyData.showableAll ds = true := by simpa [PyData.showableAll] using hs
    cases h with
    | cons h1 h2 =>
      cases r with
      | cons r1 r2 =>
        obtain ⟨b1, hb1, k1⟩ := Rp.reprs I sub d _ _ h1 r1 hs'.1 (hz _ (by simp only [PyData.shownAll]; exact List.mem_cons_self ..))
        obtain ⟨b2, hb2, k2⟩ := RpA.reprs I sub ds _ _ h2 r2 hs'.2 fun t ht => hz t (by simp only [PyData.shownAll]; exact List.mem_cons_of_mem _ ht)
        refine ⟨b1 ++ b2, (hb1.mono (by simp only [PyData.depthAll]; exact Nat.le_max_left _ _)).append (hb2.mono (by simp only [PyData.depthAll]; exact Nat.le_max_right _ _)), ?_⟩
        simp only [PyData.depthAll, PyData.shownAll]
        exact .cons ((k1.more fun b hb => List.mem_append_left _ hb).level_le (Nat.le_max_left _ _)) (k2.more_le (fun b hb => List.mem_append_right _ hb) (Nat.le_max_right _ _))
theorem RpK.reprs {X : Cx} {pins : List (Addr × Obj)} {σ : L2.St} {H F : Hp} {s : Shared} (I : Inv X pins σ H s) (sub : Same F H) : ∀ (kvs : List (PyData × PyData)) (ks : List (Key × V)) (us : List (Key × Value)) (es : List DictEntry), RpK X.K F ks kvs → KV ks us → Pairs (mixKind X.prog X.w) es us → PyData.showableKv kvs = true → (∀ t ∈ PyData.shownKv kvs, t.length ≤ sizeLine) →
    ∃ bs, ReadAtMost s.heap (PyData.depthKv kvs) bs ∧ ReprEntriesK X.prog X.w bs s.heap (PyData.depthKv kvs) es (PyData.shownKv kvs)
  | [], _, _, _, h, r, p, _, _ => by cases h; cases r; cases p; exact ⟨[], (fun _ h => nomatch h), by simp only [PyData.shownKv]; exact .nil⟩
  | (kd, d) :: kvs, _, _, _, h, r, p, hs, hz => by
    have hs' : (kd.showable = true ∧ d.showable = true) ∧ PyData.showableKv kvs = true := by simpa [PyData.showableKv] using hs
    have hz1 : (kd.shown ++ ": " ++ d.shown).length ≤ sizeLine := hz _ (by simp only [PyData.shownKv]; exact List.mem_cons_self ..)
    rw [strLen_append, strLen_append] at hz1
    cases h with
    | @cons k v ks0 _ _ h1 h2 =>
      cases r with
      | cons r1 r2 =>
        cases p with
        | @cons e' kv' es' kvs' p1 p2 p3 =>
          obtain ⟨b1, hb1, k1⟩ := Rp.reprs I sub d _ _ h1 r1.2 hs'.1.2 (by omega)
          obtain ⟨b2, hb2, k2⟩ := RpK.reprs I sub kvs _ _ _ h2 r2 p3 hs'.2 fun t ht => hz t (by simp only [PyData.shownKv]; exact List.mem_cons_of_mem _ ht)
          have hk : keyIs k e'.key = true := by rw [show k = _ from r1.1]; exact p1
          have kk : ReprK X.prog X.w [] s.heap 0 e'.key (keyD k).shown := by
            rcases keyIs_shape hk with ⟨j, t, rfl, e⟩ | ⟨y, t, rfl, e⟩
            · rw [e]; simp only [keyD, PyData.shown]; exact .of_is (ReprIs.int t (by simpa [keyD, PyData.showable] using hs'.1.1)) _ _ _
            · rw [e]; simp only [keyD, PyData.shown]; exact .of_is (ReprIs.str y t (by simp only [keyD, PyData.shown] at hz1; omega)) _ _ _
          refine ⟨b1 ++ b2, (hb1.mono (by simp only [PyData.depthKv]; omega)).append (hb2.mono (by simp only [PyData.depthKv]; omega)), ?_⟩
          simp only [PyData.depthKv, PyData.shownKv]
          have q2 : ReprK X.prog X.w (b1 ++ b2) s.heap (max (max (keyD k).depth d.depth) (PyData.depthKv kvs)) e'.val d.shown := by
            rw [p2]; exact (k1.more fun b hb => List.mem_append_left _ hb).level_le (by omega)
          have q3 : ∀ {es : List DictEntry} {ps : List Str}, ReprEntriesK X.prog X.w b2 s.heap (PyData.depthKv kvs) es ps → ReprEntriesK X.prog X.w (b1 ++ b2) s.heap (max (max (keyD k).depth d.depth) (PyData.depthKv kvs)) es ps := fun h => by
            induction h with
            | nil => exact .nil
            | cons a b _ ih => exact .cons ((a.more fun b hb => List.mem_append_right _ hb).level_le (by omega)) ((b.more fun b hb => List.mem_append_right _ hb).level_le (by omega)) ih
          exact .cons ((kk.more fun b hb => nomatch hb).level_le (by omega)) q2 (q3 k2)
end
end DL
end

section
set_option Elab.async false
set_option linter.all false
set_option maxRecDepth 100000
set_option maxHeartbeats 4000000
/-! DL7: the operators and built-ins on data. -/
namespace DL
open PySem PySem.Spec PyProof.Rows L2

theorem _root_.L2.OpR.imp {X : Cx} {f : Value → Value → Sem Value} {r r' : R2} (h : OpR X f r) (hi : ∀ x y H Q, r' x y H Q → r x y H Q) : OpR X f r' := fun pins s σ H x y v u Q I rx ry q => h pins s σ H x y v u Q I rx ry (hi _ _ _ _ q)
theorem _root_.L2.CallR.imp {X : Cx} {f : Value} {r r' : List V → Hp → VK → Prop} (h : CallR X f r) (hi : ∀ xs H Q, r' xs H Q → r xs H Q) : CallR X f r' := fun pins s σ H xs us Q I rx q => h pins s σ H xs us Q I rx (hi _ _ _ q)
def lim {α : Type} (n : Nat) (x : α) : Option α := if n ≤ 1000000 then some x else none
theorem lim_some {α : Type} {n : Nat} {x y : α} (h : lim n x = some y) : x = y ∧ n ≤ sizeLine := by
  unfold lim at h
  by_cases hl : n ≤ 1000000
  · rw [if_pos hl] at h; cases h; exact ⟨rfl, Nat.le_of_lt (Nat.lt_of_le_of_lt hl (by decide))⟩
  · rw [if_neg hl] at h; cases h
section
variable {X : Cx}
/-! tuples made: each is kept as the object that it is -/
def rCatZ (K : PySem.W.Frag) : R2 := fun x y H Q => ∃ a b xs ys, x = .ref a ∧ y = .ref b ∧ SqT K H a xs ∧ SqT K H b ys ∧ xs.length + ys.length ≤ sizeLine ∧
  (xs = [] → Q (.ref b) H) ∧ (ys = [] → Q (.ref a) H) ∧ (∀ p o, H p = none → o.dict = none → Q (.ref p) (upd H p (.frz o (.tup (xs ++ ys)))))
theorem op_catZ : OpR X (binaryOp .Add) (rCatZ X.K) := by
  intro pins s σ H x y v u Q I rx ry ⟨a, b, xs, ys, ex, ey, ha, hb, hz, q0, q1, q2⟩
  subst ex
  subst ey
  obtain rfl : v = Value.ref a := rx
  obtain rfl : u = Value.ref b := ry
  obtain ⟨its, r1, p1, _⟩ := I.tuple ha
  obtain ⟨its2, r2, p2, _⟩ := I.tuple hb
  by_cases hx : xs = []
  · subst hx
    cases r1
    exact cat_tup0 p1 p2 ⟨.ref b, H, I, rfl, q0 rfl⟩
  · refine HT.cat_tup p1 p2 (fun z => hx (r1.nil_iff.mp z)) (fun z => ⟨.ref a, H, I, rfl, q1 (r2.nil_iff.mp z)⟩) (fun z => ?_) (by rw [← r1.length, ← r2.length]; exact hz)
    exact ⟨.ref s.heap.objs.size, _, I.laid (t' := s.toks) (o := .frz _ (.tup (xs ++ ys))) (fun b ob q => Heap.get?_push_of_some _ q) (Nat.le_refl _)
      ⟨Heap.get?_push_size _ rfl, by rw [List.length_append]; exact hz, _, r1.append r2, IsTup.new _ _⟩, rfl, q2 _ _ (I.hok.fresh (Nat.le_refl _)) rfl⟩
theorem call_tupleZ : CallR X (.type "tuple") (fun xs H Q => ∃ p ys, xs = [.ref p] ∧ ((SqL X.K H p ys ∧ ∀ l o, H l = none → o.dict = none → Q (.ref l) (upd H l (.frz o (.tup ys)))) ∨ (SqT X.K H p ys ∧ Q (.ref p) H))) := by
  intro pins s σ H xs us Q I r ⟨p, ys, ex, h⟩
  subst ex
  obtain ⟨u, rfl, rx⟩ := vals1 r
  obtain rfl : u = Value.ref p := rx
  rcases h with ⟨hq, q⟩ | ⟨hq, q⟩
  · obtain ⟨its, r', pl, hz⟩ := I.list hq
    have hlen := r'.length
    refine call_tuple_list pl.isList (fun h' kp => ?_) (by simp only [List.size_toArray] <;> omega)
    have I1 : Inv X pins σ H { s with heap := h' } := I.kept (t' := s.toks) kp
    exact ⟨.ref h'.objs.size, _, I1.laid (t' := s.toks) (o := .frz _ (.tup ys)) (fun b o e => Heap.get?_push_of_some _ e) (Nat.le_refl _) ⟨Heap.get?_push_size _ rfl, hz, its, r', IsTup.new _ _⟩, rfl, q _ _ (I1.hok.fresh (Nat.le_refl _)) rfl⟩
  · obtain ⟨its, r', pl, hz⟩ := I.tuple hq
    exact call_tuple_same pl ⟨.ref p, H, I, rfl, q⟩
def addD : PyData → PyData → Option PyData
  | .int i, .int j => some (.int (i + j))
  | .str x, .str y => lim (x.length + y.length) (.str (x ++ y))
  | .tuple xs, .tuple ys => lim (xs.length + ys.length) (.tuple (xs ++ ys))
  | .list xs, .list ys => lim (xs.length + ys.length) (.list (xs ++ ys))
  | _, _ => none
theorem opd_add : OpD X (binaryOp .Add) addD := (op_add.or (op_add_str.or (op_catZ.or op_cat))).imp fun x y H Q ⟨g, F, st, d, e, r, b, r1, r2, h, q⟩ => by
  unfold addD at h
  split at h
  · cases h; cases r1.int; cases r2.int; exact .inl ⟨_, _, rfl, rfl, q _ H F b (.int _)⟩
  · obtain ⟨rfl, hz⟩ := lim_some h; cases r1.str; cases r2.str; exact .inr (.inl ⟨_, _, rfl, rfl, hz, q _ H F b (.str _)⟩)
  · rename_i xs ys
    obtain ⟨rfl, hz⟩ := lim_some h
    obtain ⟨a, vs, rfl, h1, h2, h3⟩ := r1.tuple b.sub
    obtain ⟨c, ws, rfl, k1, k2, k3⟩ := r2.tuple b.sub
    refine .inr (.inr (.inl ⟨a, c, vs, ws, rfl, rfl, h2, k2, by rw [h3.length, k3.length]; exact hz, fun e => ?_, fun e => ?_, fun p o hp ho => ?_⟩))
    · subst e; cases h3; rw [List.nil_append] at q; exact q _ H F b (.tup k1 k3)
    · subst e; cases k3; rw [List.append_nil] at q; exact q _ H F b (.tup h1 h3)
    · obtain ⟨b3, r3⟩ := b.tupNew hp ho (h3.append k3); exact q _ _ _ b3 r3
  · obtain ⟨rfl, hz⟩ := lim_some h
    obtain ⟨a, vs, rfl, h2, h3⟩ := r1.list b.sub
    obtain ⟨c, ws, rfl, k2, k3⟩ := r2.list b.sub
    exact .inr (.inr (.inr ⟨a, c, vs, ws, rfl, rfl, h2, k2, by rw [h3.length, k3.length]; exact hz, fun p hp => let ⟨b3, r3⟩ := b.lstNew hp (h3.append k3); q _ _ _ b3 r3⟩))
  · cases h
def addL : PyData → PyData → Option (List PyData)
  | .list xs, .list ys => lim (xs.length + ys.length) (xs ++ ys)
  | _, _ => none
theorem opf_add : OpF X (binaryOp .Add) addL := op_cat.imp fun x y H Q ⟨g, F, st, d, e, r, b, r1, r2, h, q⟩ => by
  unfold addL at h
  split at h
  · obtain ⟨rfl, hz⟩ := lim_some h
    obtain ⟨a, vs, rfl, h2, h3⟩ := r1.list b.sub
    obtain ⟨c, ws, rfl, k2, k3⟩ := r2.list b.sub
    exact ⟨a, c, vs, ws, rfl, rfl, h2, k2, by rw [h3.length, k3.length]; exact hz, fun p hp => q p _ _ F (b.newH hp) hp upd_same (noneF b hp) (h3.append k3)⟩
  · cases h
def subD : PyData → PyData → Option PyData
  | .int i, .int j => some (.int (i - j))
  | _, _ => none
theorem opd_sub : OpD X (binaryOp .Sub) subD := op_sub.imp fun x y H Q ⟨g, F, st, d, e, r, b, r1, r2, h, q⟩ => by
  unfold subD at h
  split at h
  · cases h; cases r1.int; cases r2.int; exact ⟨_, _, rfl, rfl, q _ H F b (.int _)⟩
  · cases h
def mulD : PyData → PyData → Option PyData
  | .int i, .int j => if j.natAbs < 1152921504606846976 ∨ i.natAbs < 1152921504606846976 ∨ i.natAbs.log2 + j.natAbs.log2 < 1000000 then some (.int (i * j)) else none
  | _, _ => none
theorem RpA.rep {K : PySem.W.Frag} {F : Hp} {vs : List V} {ds : List PyData} (h : RpA K F vs ds) : ∀ n : Nat, RpA K F (List.replicate n vs).flatten (List.replicate n ds).flatten
  | 0 => .nil
  | n + 1 => by
    rw [List.replicate_succ, List.replicate_succ, List.flatten_cons, List.flatten_cons]
    exact h.append (RpA.rep h n)
theorem p64 : (2 : Int) ^ 64 = 18446744073709551616 := by decide
theorem opd_mul : OpD X (binaryOp .Mult) mulD := (op_mulW.or op_mul).imp fun x y H Q ⟨g, F, st, d, e, r, b, r1, r2, h, q⟩ => by
  unfold mulD at h
  split at h
  · split at h
    · rename_i hc
      cases h
      cases r1.int
      cases r2.int
      rcases hc with hc | hc | hc
      · exact .inr ⟨_, _, rfl, rfl, .inr (by rw [p64]; omega), q _ H F b (.int _)⟩
      · exact .inr ⟨_, _, rfl, rfl, .inl (by rw [p64]; omega), q _ H F b (.int _)⟩
      · exact .inl ⟨_, _, rfl, rfl, hc, q _ H F b (.int _)⟩
    · cases h
  · cases h
def repL : PyData → PyData → Option (List PyData)
  | .list xs, .int k => if 0 ≤ k ∧ k < 1000000 ∧ xs.length * k.toNat ≤ 1000000 then some (List.replicate k.toNat xs).flatten else none
  | _, _ => none
theorem opf_rep : OpF X (binaryOp .Mult) repL := op_rep.imp fun x y H Q ⟨g, F, st, d, e, r, b, r1, r2, h, q⟩ => by
  unfold repL at h
  split at h
  · split at h
    · rename_i xs k hc
      cases h
      obtain ⟨a, vs, rfl, h2, h3⟩ := r1.list b.sub
      cases r2.int
      obtain ⟨c1, c2, c3⟩ := hc
      exact ⟨a, k, vs, rfl, rfl, h2, by omega, by omega, by rw [h3.length]; have : (1000000 : Nat) < sizeLine := by decide
                                                            omega, fun p hp => q p _ _ F (b.newH hp) hp upd_same (noneF b hp) (h3.rep k.toNat)⟩
    · cases h
  · cases h
def fdivD : PyData → PyData → Option PyData
  | .int i, .int j => if 0 < j ∧ j.natAbs.log2 < 9000 then some (.int (i / j)) else if j ≠ 0 ∧ j.natAbs < 1073741824 then some (.int (i.fdiv j)) else none
  | _, _ => none
theorem opd_fdiv : OpD X (binaryOp .FloorDiv) fdivD := (op_fdivW.or op_fdivN).imp fun x y H Q ⟨g, F, st, d, e, r, b, r1, r2, h, q⟩ => by
  unfold fdivD at h
  split at h
  · split at h
    · rename_i hc; cases h; cases r1.int; cases r2.int; exact .inl ⟨_, _, rfl, rfl, hc, q _ H F b (.int _)⟩
    · split at h
      · rename_i hc; cases h; cases r1.int; cases r2.int; exact .inr ⟨_, _, rfl, rfl, hc, q _ H F b (.int _)⟩
      · cases h
  · cases h
def modD : PyData → PyData → Option PyData
  | .int i, .int j => if 0 < j then some (.int (i % j)) else if j ≠ 0 then some (.int (i.fmod j)) else none
  | _, _ => none
theorem opd_mod : OpD X (binaryOp .Mod) modD := (op_mod.or op_modN).imp fun x y H Q ⟨g, F, st, d, e, r, b, r1, r2, h, q⟩ => by
  unfold modD at h
  split at h
  · split at h
    · rename_i hc; cases h; cases r1.int; cases r2.int; exact .inl ⟨_, _, rfl, rfl, hc, q _ H F b (.int _)⟩
    · split at h
      · rename_i hc; cases h; cases r1.int; cases r2.int; exact .inr ⟨_, _, rfl, rfl, hc, q _ H F b (.int _)⟩
      · cases h
  · cases h
def powD : PyData → PyData → Option PyData
  | .int i, .int j => if 0 ≤ j ∧ j ≤ 1000000 ∧ i.natAbs < 2 ^ 64 then some (.int (i ^ j.toNat)) else none
  | _, _ => none
theorem opd_pow : OpD X (binaryOp .Pow) powD := op_pow.imp fun x y H Q ⟨g, F, st, d, e, r, b, r1, r2, h, q⟩ => by
  unfold powD at h
  split at h
  · split at h
    · rename_i hc; cases h; cases r1.int; cases r2.int; exact ⟨_, _, rfl, rfl, hc, q _ H F b (.int _)⟩
    · cases h
  · cases h
def negD : PyData → Option PyData
  | .int i => some (.int (-i))
  | _ => none
def mUn (φ : PyData → Option PyData) (m : Ev → M PyData) : Ev → M PyData := fun ρ => do let d ← m ρ; lft (φ d)
theorem se_neg {e : Expr} {m : Ev → M PyData} {pos : Pos} (h : SB X e m) : SE X (.UnaryOp .USub e pos) (mUn negD m) := fun g H0 F0 => (pe_un un_neg (h g H0 F0)).imp fun σ H Q ⟨ρ, F, st, d, st', b, s, e, q⟩ => by
  obtain ⟨x, st1, e1, e2⟩ := bnd e
  obtain ⟨e3, rfl⟩ := lfts e2
  refine ⟨ρ, F, st, x, st', b, s, e1, fun v H' F' b' r => ?_⟩
  cases x <;> first | cases e3 | skip
  cases r.int
  exact ⟨_, rfl, q _ H' F' b' (.int _)⟩
def cmpI (p : Int → Int → Bool) : PyData → PyData → Option PyData
  | .int i, .int j => some (.bool (p i j))
  | _, _ => none
def ltD : PyData → PyData → Option PyData := cmpI fun i j => decide (i < j)
def leD : PyData → PyData → Option PyData := cmpI fun i j => decide (i ≤ j)
def gtD : PyData → PyData → Option PyData := cmpI fun i j => decide (j < i)
def geD : PyData → PyData → Option PyData := cmpI fun i j => decide (j ≤ i)
theorem opd_cmp {op : CmpOp} {p : Int → Int → Bool} (ho : OpR X (compareOp op) (rI0 fun i j => .bl (p i j))) : OpD X (compareOp op) (cmpI p) := ho.imp fun x y H Q ⟨g, F, st, d, e, r, b, r1, r2, h, q⟩ => by
  unfold cmpI at h
  split at h
  · cases h; cases r1.int; cases r2.int; exact ⟨_, _, rfl, rfl, q _ H F b (.bl _)⟩
  · cases h
theorem opd_lt : OpD X (compareOp .Lt) ltD := opd_cmp op_lt
theorem opd_le : OpD X (compareOp .LtE) leD := opd_cmp op_le
theorem opd_gt : OpD X (compareOp .Gt) gtD := opd_cmp op_gt
theorem opd_ge : OpD X (compareOp .GtE) geD := opd_cmp op_ge
/-- == of data without dicts, at most sixty deep (the one of them); of lists of other lengths -/
def eqF (x y : PyData) : Option Bool := if x.plain = true ∧ y.plain = true ∧ (x.depth ≤ 60 ∨ y.depth ≤ 60) then some (PyData.eqv x y) else match x, y with
  | .list xs, .list ys => if xs.length ≠ ys.length then some false else none
  | _, _ => none
def eqD (x y : PyData) : Option PyData := (eqF x y).map .bool
def neD (x y : PyData) : Option PyData := (eqF x y).map fun b => .bool (!b)
theorem eqF_cases {x y : PyData} {b : Bool} (h : eqF x y = some b) : (x.plain = true ∧ y.plain = true ∧ (x.depth ≤ 60 ∨ y.depth ≤ 60) ∧ b = PyData.eqv x y) ∨ ∃ xs ys, x = .list xs ∧ y = .list ys ∧ xs.length ≠ ys.length ∧ b = false := by
  unfold eqF at h
  split at h
  · rename_i hc
    cases h
    exact .inl ⟨hc.1, hc.2.1, hc.2.2, rfl⟩
  · split at h
    · split at h
      · rename_i hl
        cases h
        exact .inr ⟨_, _, rfl, rfl, hl, rfl⟩
      · cases h
    · cases h
theorem size_ne {vs ws : List V} {its jts : List Value} (r1 : Vals vs its) (r2 : Vals ws jts) (h : vs.length ≠ ws.length) : (its.toArray.size != jts.toArray.size) = true := by
  have e1 := r1.length
  have e2 := r2.length
  simp at e1 e2 ⊢
  omega
theorem opd_eq (hu : X.A.units + 64 < cLine) : OpD X (compareOp .Eq) eqD := fun pins s σ H x y v u Q I rx ry ⟨g, F, st, d, e, r, b, r1, r2, h, q⟩ => by
  obtain ⟨k, h', rfl⟩ := Option.map_eq_some_iff.mp h
  rcases eqF_cases h' with ⟨h1, h2, h3, rfl⟩ | ⟨xs, ys, rfl, rfl, hl, rfl⟩
  · obtain ⟨as, q1⟩ := r1.reads I b.sub rx
    obtain ⟨bs, q2⟩ := r2.reads I b.sub ry
    exact PySem.SeqAt.eq_plain q1 q2 h1 h2 (by omega) ⟨.bl _, H, I, rfl, q _ H F b (.bl _)⟩
  · obtain ⟨a, vs, rfl, h1, h2⟩ := r1.list b.sub
    obtain ⟨c, ws, rfl, h3, h4⟩ := r2.list b.sub
    cases rx
    cases ry
    obtain ⟨its, p1, p2, _⟩ := I.list (SqL.of h1)
    obtain ⟨jts, p3, p4, _⟩ := I.list (SqL.of h3)
    exact PySem.SeqAt.RcAt.lists_lengths p2.isList p4.isList (size_ne p1 p3 (by rw [h2.length, h4.length]; exact hl)) (by omega) _ _ _ _ ⟨.bl _, H, I, rfl, q _ H F b (.bl _)⟩
theorem opd_ne (hu : X.A.units + 64 < cLine) : OpD X (compareOp .NotEq) neD := fun pins s σ H x y v u Q I rx ry ⟨g, F, st, d, e, r, b, r1, r2, h, q⟩ => by
  obtain ⟨k, h', rfl⟩ := Option.map_eq_some_iff.mp h
  rcases eqF_cases h' with ⟨h1, h2, h3, rfl⟩ | ⟨xs, ys, rfl, rfl, hl, rfl⟩
  · obtain ⟨as, q1⟩ := r1.reads I b.sub rx
    obtain ⟨bs, q2⟩ := r2.reads I b.sub ry
    exact PySem.SeqAt.ne_plain q1 q2 h1 h2 (by omega) ⟨.bl _, H, I, rfl, q _ H F b (.bl _)⟩
  · obtain ⟨a, vs, rfl, h1, h2⟩ := r1.list b.sub
    obtain ⟨c, ws, rfl, h3, h4⟩ := r2.list b.sub
    cases rx
    cases ry
    obtain ⟨its, p1, p2, _⟩ := I.list (SqL.of h1)
    obtain ⟨jts, p3, p4, _⟩ := I.list (SqL.of h3)
    exact PySem.SeqAt.RcNeAt.lists_lengths p2.isList p4.isList (size_ne p1 p3 (by rw [h2.length, h4.length]; exact hl)) (by omega) _ _ _ _ ⟨.bl _, H, I, rfl, q _ H F b (.bl _)⟩
def isN : PyData → Bool
  | .none => true
  | _ => false
def mIsN (m : Ev → M PyData) : Ev → M PyData := fun ρ => do let d ← m ρ; pure (.bool (isN d))
def mIsNot (m : Ev → M PyData) : Ev → M PyData := fun ρ => do let d ← m ρ; pure (.bool (!isN d))
theorem isN_eq {K : PySem.W.Frag} {g : Gh} {H F : Hp} {v : V} {d : PyData} (r : RpB K g H F v d) : decide (v = .non) = isN d := by
  cases d with
  | none => cases r.none; rfl
  | bool _ => cases r.bool; rfl
  | int _ => cases r.int; rfl
  | str _ => cases r.str; rfl
  | list _ => rcases r with r | ⟨a, vs, ds, rfl, _⟩ | ⟨a, ks, kvs, rfl, _⟩ <;> first | rfl | (cases r; rfl)
  | tuple _ => rcases r with r | ⟨a, vs, ds, rfl, _⟩ | ⟨a, ks, kvs, rfl, _⟩ <;> first | rfl | (cases r; rfl)
  | dict _ => rcases r with r | ⟨a, vs, ds, rfl, _⟩ | ⟨a, ks, kvs, rfl, _⟩ <;> first | rfl | (cases r; rfl)
theorem se_isN {e : Expr} {m : Ev → M PyData} {pos pos' : Pos} {j : Nat} (h : SB X e m) : SE X (.Compare e [.Is] [.Constant .none j pos'] pos) (mIsN m) := fun g H0 F0 => (pe_cmp (pc_isN (h g H0 F0))).imp fun σ H Q ⟨ρ, F, st, d, st', b, s, e, q⟩ => by
  obtain ⟨x, st1, e1, e2⟩ := bnd e
  obtain ⟨rfl, rfl⟩ := purs e2
  exact ⟨ρ, F, st, x, st', b, s, e1, fun v H' F' b' r => by show Q (.bl (decide (v = .non))) H'; rw [isN_eq r]; exact q _ H' F' b' (.bl _)⟩
theorem se_isNot {e : Expr} {m : Ev → M PyData} {pos pos' : Pos} {j : Nat} (h : SB X e m) : SE X (.Compare e [.IsNot] [.Constant .none j pos'] pos) (mIsNot m) := fun g H0 F0 => (pe_cmp (pc_notN (h g H0 F0))).imp fun σ H Q ⟨ρ, F, st, d, st', b, s, e, q⟩ => by
  obtain ⟨x, st1, e1, e2⟩ := bnd e
  obtain ⟨rfl, rfl⟩ := purs e2
  exact ⟨ρ, F, st, x, st', b, s, e1, fun v H' F' b' r => by show Q (.bl (!decide (v = .non))) H'; rw [isN_eq r]; exact q _ H' F' b' (.bl _)⟩
/-- .. as tests -/
theorem st_isN {e : Expr} {m : Ev → M PyData} {pos pos' : Pos} {j : Nat} (h : SB X e m) : STs X (.Compare e [.Is] [.Constant .none j pos'] pos) (mAsB (mIsN m)) := fun g H0 F0 => (pt_cmp (pc_isN (h g H0 F0))).imp fun σ H Q ⟨ρ, F, st, k, st', b, s, e, q⟩ => by
  obtain ⟨d, st0, e0, f0⟩ := bnd e
  obtain ⟨x, st1, e1, e2⟩ := bnd e0
  obtain ⟨rfl, rfl⟩ := purs e2
  obtain ⟨e3, rfl⟩ := lfts f0
  cases (asB_some e3)
  exact ⟨ρ, F, st, x, st', b, s, e1, fun v H' F' b' r => ⟨_, rfl, by rw [isN_eq r]; exact q H' F' b'⟩⟩
theorem st_isNot {e : Expr} {m : Ev → M PyData} {pos pos' : Pos} {j : Nat} (h : SB X e m) : STs X (.Compare e [.IsNot] [.Constant .none j pos'] pos) (mAsB (mIsNot m)) := fun g H0 F0 => (pt_cmp (pc_notN (h g H0 F0))).imp fun σ H Q ⟨ρ, F, st, k, st', b, s, e, q⟩ => by
  obtain ⟨d, st0, e0, f0⟩ := bnd e
  obtain ⟨x, st1, e1, e2⟩ := bnd e0
  obtain ⟨rfl, rfl⟩ := purs e2
  obtain ⟨e3, rfl⟩ := lfts f0
  cases (asB_some e3)
  exact ⟨ρ, F, st, x, st', b, s, e1, fun v H' F' b' r => ⟨_, rfl, by rw [isN_eq r]; exact q H' F' b'⟩⟩

/-! ### chains -/
def mChain (φ ψ : PyData → PyData → Option PyData) (ma mb mc : Ev → M PyData) : Ev → M PyData := fun ρ => do
  let x ← ma ρ
  let y ← mb ρ
  let z ← lft (φ x y)
  let k ← lft (asB z)
  if k then (do let w ← mc ρ; lft (ψ y w)) else pure (.bool false)

/-! ### built-ins -/
def tyD : PyData → String
  | .none => "NoneType"
  | .bool _ => "bool"
  | .int _ => "int"
  | .str _ => "str"
  | .list _ => "list"
  | .tuple _ => "tuple"
  | .dict _ => "dict"
def isD (n : String) (d : PyData) : Option Bool := kitB (tyD d) n
theorem RpB.ty {K : PySem.W.Frag} {g : Gh} {H F : Hp} {v : V} {d : PyData} (sub : Same F H) (r : RpB K g H F v d) : TyX K H v (.type (tyD d)) := by
  cases d with
  | none => cases r.none; exact .base .non
  | bool _ => cases r.bool; exact .base (.bl _)
  | int _ => cases r.int; exact .base (.int _)
  | str _ => cases r.str; exact .base (.str _)
  | list _ => obtain ⟨a, vs, rfl, h, _⟩ := r.list sub; exact .base (.lst h)
  | tuple _ =>
    obtain ⟨a, vs, rfl, _, h, _⟩ := r.tuple sub
    rcases h with (h | ⟨o, h⟩) | ⟨o, its, n, h, hc, _⟩
    · exact .base (.tup h)
    · exact .fTuple h
    · exact .kTuple h hc
  | dict _ =>
    obtain ⟨a, vs, rfl, h, _⟩ := r.dict sub
    rcases h with h | ⟨o, h⟩
    · exact .base (.dK h)
    · exact .fDict h
def mIsi (n : String) (m : Ev → M PyData) : Ev → M PyData := fun ρ => do let d ← m ρ; let b ← lft (isD n d); pure (.bool b)
theorem se_isi {n : String} {y : Str} {e : Expr} {m : Ev → M PyData} {p py pos : Pos} (hm : X.mg "isinstance" = none) (h : SB X e m) (hmy : X.mg y = none) (hvy : bootBuiltins y = some (.type n) := by decide +kernel) (hgy : Gl X y := by rfl) (hg : Gl X "isinstance" := by rfl) (hny : y ≠ "__name__" := by decide) (hdy : (y == ("__debug__" : Str)) = false := by decide)
    (hv : bootBuiltins "isinstance" = some (.builtin "isinstance") := by decide +kernel) (he0 : starEach [e, .Name y py] X.env = (false, eval e X.env) :: starEach [.Name y py] X.env := by rfl) (he1 : starEach [.Name y py] X.env = (false, eval (.Name y py) X.env) :: starEach [] X.env := by rfl) (hpl : (backTo pos (starEach [.Name y py] X.env)).any (·.1) = false := by rfl) :
    SE X (.Call (.Name "isinstance" p) [e, .Name y py] [] pos) (mIsi n m) := fun g H0 F0 => (pe_callB call_isi hg hm hv (pa_cons (h g H0 F0) (pa_cons (pe_bltn (v := .ty n) hgy hmy hvy rfl hny hdy) pa_nil he1) he0) (by decide) (by decide) he0 hpl).imp fun σ H Q ⟨ρ, F, st, d, st', b, s, e, q⟩ => by
  obtain ⟨x, st1, e1, f1⟩ := bnd e
  obtain ⟨k, st2, e2, f2⟩ := bnd f1
  obtain ⟨e3, rfl⟩ := lfts e2
  obtain ⟨rfl, rfl⟩ := purs f2
  exact ⟨ρ, F, st, x, st', b, s, e1, fun v H' F' b' r => ⟨v, .ty n, _, _, k, rfl, .ty n, r.ty b'.sub, kit_ty e3, q _ H' F' b' (.bl _)⟩⟩
def lenD : List PyData → Option PyData
  | [.list ds] => some (.int ds.length)
  | [.tuple ds] => some (.int ds.length)
  | [.str x] => lim x.length (.int x.length)
  | _ => none
theorem RpBs.one {K : PySem.W.Frag} {g : Gh} {H F : Hp} {vs : List V} {d : PyData} (r : RpBs K g H F vs [d]) : ∃ v, vs = [v] ∧ RpB K g H F v d := by
  cases r with
  | cons r1 r2 => cases r2; exact ⟨_, rfl, r1⟩
theorem RpBs.two {K : PySem.W.Frag} {g : Gh} {H F : Hp} {vs : List V} {d e : PyData} (r : RpBs K g H F vs [d, e]) : ∃ v w, vs = [v, w] ∧ RpB K g H F v d ∧ RpB K g H F w e := by
  cases r with
  | cons r1 r2 => cases r2 with
    | cons r3 r4 => cases r4; exact ⟨_, _, rfl, r1, r3⟩
theorem cd_len : CallD X (.builtin "len") lenD := (call_len_seq.or call_len_str).imp fun xs H Q ⟨g, F, st, ds, r, b, rs, h, q⟩ => by
  unfold lenD at h
  split at h
  · cases h
    obtain ⟨v, rfl, r1⟩ := rs.one
    obtain ⟨a, vs, rfl, h2, h3⟩ := r1.list b.sub
    refine .inl ⟨a, vs, rfl, .inl (SqL.of h2), ?_⟩
    rw [h3.length]
    exact q _ H F b (.int _)
  · cases h
    obtain ⟨v, rfl, r1⟩ := rs.one
    obtain ⟨a, vs, rfl, h1, h2, h3⟩ := r1.tuple b.sub
    refine .inl ⟨a, vs, rfl, .inr h2, ?_⟩
    rw [h3.length]
    exact q _ H F b (.int _)
  · obtain ⟨rfl, hz⟩ := lim_some h
    obtain ⟨v, rfl, r1⟩ := rs.one
    cases r1.str
    exact .inr ⟨_, rfl, hz, q _ H F b (.int _)⟩
  · cases h
def absD : List PyData → Option PyData
  | [.int i] => some (.int (if i < 0 then -i else i))
  | _ => none
theorem cd_abs : CallD X (.builtin "abs") absD := call_abs.imp fun xs H Q ⟨g, F, st, ds, r, b, rs, h, q⟩ => by
  unfold absD at h
  split at h
  · cases h
    obtain ⟨v, rfl, r1⟩ := rs.one
    cases r1.int
    exact ⟨_, rfl, q _ H F b (.int _)⟩
  · cases h
def intD : List PyData → Option PyData
  | [.int i] => some (.int i)
  | _ => none
theorem cd_int : CallD X (.type "int") intD := call_int1.imp fun xs H Q ⟨g, F, st, ds, r, b, rs, h, q⟩ => by
  unfold intD at h
  split at h
  · cases h
    obtain ⟨v, rfl, r1⟩ := rs.one
    cases r1.int
    exact .inl ⟨_, rfl, q _ H F b (.int _)⟩
  · cases h
def gcdD : List PyData → Option PyData
  | [.int i, .int j] => some (.int (Nat.gcd i.natAbs j.natAbs : Nat))
  | _ => none
theorem cd_gcd : CallD X (.builtin "math.gcd") gcdD := cr_gcd.imp fun xs H Q ⟨g, F, st, ds, r, b, rs, h, q⟩ => by
  unfold gcdD at h
  split at h
  · cases h
    obtain ⟨v, w, rfl, r1, r2⟩ := rs.two
    cases r1.int
    cases r2.int
    exact ⟨_, _, rfl, q _ H F b (.int _)⟩
  · cases h
def intsOf : List PyData → Option (List Int)
  | [] => some []
  | d :: ds => do let i ← asI d; let is ← intsOf ds; pure (i :: is)
theorem intsOf_some : ∀ {ds : List PyData} {ns : List Int}, intsOf ds = some ns → ds = ns.map PyData.int
  | [], ns, h => by cases h; rfl
  | d :: ds, ns, h => by
    have h' : ((asI d).bind fun i => (intsOf ds).bind fun is => some (i :: is)) = some ns := h
    obtain ⟨i, e1, h1⟩ := Option.bind_eq_some_iff.mp h'
    obtain ⟨is, e2, h2⟩ := Option.bind_eq_some_iff.mp h1
    cases h2
    rw [asI_some e1, intsOf_some e2]; rfl
theorem intsOf_ints : ∀ ns : List Int, intsOf (ns.map PyData.int) = some ns
  | [] => rfl
  | n :: ns => by
    show ((asI (.int n)).bind fun i => (intsOf (ns.map PyData.int)).bind fun is => some (i :: is)) = _
    rw [intsOf_ints ns]; rfl
def boolsOf : List PyData → Option (List Bool)
  | [] => some []
  | d :: ds => do let i ← asB d; let is ← boolsOf ds; pure (i :: is)
theorem boolsOf_some : ∀ {ds : List PyData} {ns : List Bool}, boolsOf ds = some ns → ds = ns.map PyData.bool
  | [], ns, h => by cases h; rfl
  | d :: ds, ns, h => by
    have h' : ((asB d).bind fun i => (boolsOf ds).bind fun is => some (i :: is)) = some ns := h
    obtain ⟨i, e1, h1⟩ := Option.bind_eq_some_iff.mp h'
    obtain ⟨is, e2, h2⟩ := Option.bind_eq_some_iff.mp h1
    cases h2
    rw [asB_some e1, boolsOf_some e2]; rfl
theorem boolsOf_bools : ∀ ns : List Bool, boolsOf (ns.map PyData.bool) = some ns
  | [] => rfl
  | n :: ns => by
    show ((asB (.bool n)).bind fun i => (boolsOf (ns.map PyData.bool)).bind fun is => some (i :: is)) = _
    rw [boolsOf_bools ns]; rfl
def sumD : List PyData → Option PyData
  | [.list ds] => (intsOf ds).map fun ns => .int ns.sum
  | _ => none
theorem cd_sum (hc : X.calm = true) : CallD X (.builtin "sum") sumD := (cr_sum hc).imp fun xs H Q ⟨g, F, st, ds, r, b, rs, h, q⟩ => by
  unfold sumD at h
  split at h
  · obtain ⟨ns, e1, rfl⟩ := Option.map_eq_some_iff.mp h
    cases intsOf_some e1
    obtain ⟨v, rfl, r1⟩ := rs.one
    obtain ⟨a, vs, rfl, h2, h3⟩ := r1.list b.sub
    cases h3.of_ints
    exact ⟨a, ns, rfl, SqL.of h2, q _ H F b (.int _)⟩
  · cases h
def allD : List PyData → Option PyData
  | [.list ds] => (boolsOf ds).map fun ns => .bool (ns.all id)
  | _ => none
theorem cd_all (hc : X.calm = true) : CallD X (.builtin "all") allD := (cr_all hc).imp fun xs H Q ⟨g, F, st, ds, r, b, rs, h, q⟩ => by
  unfold allD at h
  split at h
  · obtain ⟨ns, e1, rfl⟩ := Option.map_eq_some_iff.mp h
    cases boolsOf_some e1
    obtain ⟨v, rfl, r1⟩ := rs.one
    obtain ⟨a, vs, rfl, h2, h3⟩ := r1.list b.sub
    cases h3.of_bools
    exact ⟨a, ns, rfl, SqL.of h2, q _ H F b (.bl _)⟩
  · cases h
def anyD : List PyData → Option PyData
  | [.list ds] => (boolsOf ds).map fun ns => .bool (ns.any id)
  | _ => none
theorem cd_any (hc : X.calm = true) : CallD X (.builtin "any") anyD := (cr_any hc).imp fun xs H Q ⟨g, F, st, ds, r, b, rs, h, q⟩ => by
  unfold anyD at h
  split at h
  · obtain ⟨ns, e1, rfl⟩ := Option.map_eq_some_iff.mp h
    cases boolsOf_some e1
    obtain ⟨v, rfl, r1⟩ := rs.one
    obtain ⟨a, vs, rfl, h2, h3⟩ := r1.list b.sub
    cases h3.of_bools
    exact ⟨a, ns, rfl, SqL.of h2, q _ H F b (.bl _)⟩
  · cases h
def tupleD : List PyData → Option PyData
  | [.list ds] => some (.tuple ds)
  | [.tuple ds] => some (.tuple ds)
  | _ => none
theorem cd_tuple : CallD X (.type "tuple") tupleD := call_tupleZ.imp fun xs H Q ⟨g, F, st, ds, r, b, rs, h, q⟩ => by
  unfold tupleD at h
  split at h
  · cases h
    obtain ⟨v, rfl, r1⟩ := rs.one
    obtain ⟨a, vs, rfl, h2, h3⟩ := r1.list b.sub
    exact ⟨a, vs, rfl, .inl ⟨SqL.of h2, fun p o hp ho => let ⟨b3, r3⟩ := b.tupNew hp ho h3; q _ _ _ b3 r3⟩⟩
  · cases h
    obtain ⟨v, rfl, r1⟩ := rs.one
    obtain ⟨a, vs, rfl, h1, h2, h3⟩ := r1.tuple b.sub
    exact ⟨a, vs, rfl, .inr ⟨h2, q _ H F b (.tup h1 h3)⟩⟩
  · cases h
def listL : List PyData → Option (List PyData)
  | [.list ds] => some ds
  | [.tuple ds] => some ds
  | _ => none
theorem cf_list : CallF X (.type "list") listL := call_list_of.imp fun xs H Q ⟨g, F, st, ds, r, b, rs, h, q⟩ => by
  unfold listL at h
  split at h
  · cases h
    obtain ⟨v, rfl, r1⟩ := rs.one
    obtain ⟨a, vs, rfl, h2, h3⟩ := r1.list b.sub
    exact ⟨a, vs, rfl, .inl (SqL.of h2), fun p hp => q p _ _ F (b.newH hp) hp upd_same (noneF b hp) h3⟩
  · cases h
    obtain ⟨v, rfl, r1⟩ := rs.one
    obtain ⟨a, vs, rfl, h1, h2, h3⟩ := r1.tuple b.sub
    exact ⟨a, vs, rfl, .inr h2, fun p hp => q p _ _ F (b.newH hp) hp upd_same (noneF b hp) h3⟩
  · cases h
def sortI (ns : List Int) : List Int := ns.mergeSort (fun a b => decide (a ≤ b))
theorem sortI_perm (ns : List Int) : (sortI ns).Perm ns := List.mergeSort_perm _ _
theorem sortI_le (ns : List Int) : (sortI ns).Pairwise (· ≤ ·) := by
  have h := List.pairwise_mergeSort (le := fun a b : Int => decide (a ≤ b)) (fun a b c h1 h2 => by simp at *; omega) (fun a b => by simp; omega) ns
  exact h.imp fun h => of_decide_eq_true h
theorem perm_sorted : ∀ {xs ys : List Int}, xs.Perm ys → xs.Pairwise (· ≤ ·) → ys.Pairwise (· ≤ ·) → xs = ys
  | [], ys, p, _, _ => (List.nil_perm.mp p).symm
  | x :: xs, [], p, _, _ => absurd (List.perm_nil.mp p) (by simp)
  | x :: xs, y :: ys, p, h1, h2 => by
    have e : x = y := by
      have m1 : x ∈ y :: ys := p.subset (List.mem_cons_self ..)
      have m2 : y ∈ x :: xs := p.symm.subset (List.mem_cons_self ..)
      have a1 : y ≤ x := by
        rcases List.mem_cons.mp m1 with h | h
        · omega
        · exact (List.pairwise_cons.mp h2).1 x h
      have a2 : x ≤ y := by
        rcases List.mem_cons.mp m2 with h | h
        · omega
        · exact (List.pairwise_cons.mp h1).1 y h
      omega
    subst e
    rw [perm_sorted (List.perm_cons x |>.mp p) (List.pairwise_cons.mp h1).2 (List.pairwise_cons.mp h2).2]
theorem sortI_uniq {ns ns' : List Int} (p : ns'.Perm ns) (h : ns'.Pairwise (· ≤ ·)) : ns' = sortI ns := perm_sorted (p.trans (sortI_perm ns).symm) h (sortI_le ns)
def sortedIL : List PyData → Option (List PyData)
  | [.list ds] => (intsOf ds).map fun ns => (sortI ns).map .int
  | _ => none
theorem cf_sortedI : CallF X (.builtin "sorted") sortedIL := cr_sortedI.imp fun xs H Q ⟨g, F, st, ds, r, b, rs, h, q⟩ => by
  unfold sortedIL at h
  split at h
  · obtain ⟨ns, e1, rfl⟩ := Option.map_eq_some_iff.mp h
    cases intsOf_some e1
    obtain ⟨v, rfl, r1⟩ := rs.one
    obtain ⟨a, vs, rfl, h2, h3⟩ := r1.list b.sub
    cases h3.of_ints
    refine ⟨a, ns, rfl, SqL.of h2, fun ns' p hp hs hn => ?_⟩
    cases sortI_uniq hp hs
    exact q p _ _ F (b.newH hn) hn upd_same (noneF b hn) (RpA.ints _)
  · cases h

/-! ### repr -/
def reprD (d : PyData) : Option PyData := if d.showable = true ∧ d.shown.length ≤ 1000000 ∧ d.depth ≤ 60 then some (.str d.shown) else none
theorem repr_run {pins : List (Addr × Obj)} {σ : L2.St} {H F : Hp} {s : Shared} {v : V} {u : Value} {d : PyData} {Q : VK} (I : Inv X pins σ H s) (hg : X.A.guards = some []) (hu : X.A.units + 64 < cLine) (sub : Same F H) (h : Rp X.K F v d) (r : RelV v u) (hs : d.showable = true) (hz : d.shown.length ≤ sizeLine) (hd : d.depth ≤ 60) (q : Q (.str d.shown) H) :
    wpAny (model X.prog X.w) X.A (call (.builtin "repr") [u]) (EP X pins σ Q) X.xe s := by
  have fin : ∀ (h' : Heap) (tk : Tok) (n : Nat), (∀ b o, s.heap.get? b = some o → h'.get? b = some o) → EP X pins σ Q (.str d.shown tk) { s with heap := h', toks := n } := fun h' tk n k => ⟨.str d.shown, H, I.kept (t' := n) k, ⟨tk, rfl⟩, q⟩
  cases d with
  | none => cases h; cases r; simp only [PyData.shown] at fin; exact PySem.P.repr_of_none (fin s.heap _ _ fun _ _ e => e)
  | bool b => cases h; cases r; simp only [PyData.shown] at fin; exact PySem.P.repr_of_bool (fin s.heap _ _ fun _ _ e => e)
  | int i => cases h; obtain ⟨t, rfl⟩ := r; simp only [PyData.shown] at fin; exact PySem.P.repr_of_int (by simpa [PyData.showable] using hs) (fin s.heap _ _ fun _ _ e => e)
  | str x => cases h; obtain ⟨t, rfl⟩ := r; simp only [PyData.shown] at fin hz; exact PySem.P.repr_of_str (fin s.heap _ _ fun _ _ e => e) hz
  | list ds =>
    obtain ⟨as0, rd⟩ := Rp.reads I sub _ v u h r
    cases h with
    | @lst a vs _ h1 h2 =>
      cases r
      obtain ⟨its, rv, ⟨o, n, ho, hc, _, hdt⟩, _⟩ := I.list (SqL.of (sub _ _ h1))
      have hz' : (listText (PyData.shownAll ds)).length ≤ sizeLine := by simpa only [PyData.shown] using hz
      obtain ⟨bs, hb, hk⟩ := RpA.reprs I sub ds _ its h2 rv (by simpa [PyData.showable] using hs) fun t ht => Nat.le_trans (listText_mem_le ht) hz'
      have hna : a ∉ bs := not_mem_of_deeper rd (by simp only [PyData.depth]; omega) hb
      simp only [PyData.depth] at hd
      simp only [PyData.shown] at fin
      refine call_repr_slot (T := "list") (idr := "list.__repr__") (by omega) ⟨o, ho, hc⟩ PySem.F.slot_list_repr.toG ?_
      cases its with
      | nil =>
        cases rv
        cases h2
        simp only [PyData.shownAll, listText_nil] at fin
        exact call_list_repr_empty ⟨o, ho, hc⟩ ho hdt ⟨_, _, rfl, fin s.heap _ _ fun _ _ e => e⟩
      | cons y l =>
        exact call_list_reprK ho hc hdt hna (by simpa using hk.length_eq) (fun i z e => hk.item i z (by simpa using e)) hg (fun b _ => Clear.nil b) (by show X.A.units + 1 + _ < cLine; omega) (fun _ _ e => e) (fun h' u tk k => ⟨_, _, rfl, fin h' u tk k⟩) hz'
  | tuple ds =>
    obtain ⟨as0, rd⟩ := Rp.reads I sub _ v u h r
    cases h with
    | @tup a vs _ h1 h2 =>
      cases r
      obtain ⟨its, rv, ⟨o, ho, hc, n, hdt⟩, _⟩ := I.tuple (Same.sqT sub h1.sq)
      have hz' : (tupleText (PyData.shownAll ds)).length ≤ sizeLine := by simpa only [PyData.shown] using hz
      obtain ⟨bs, hb, hk⟩ := RpA.reprs I sub ds _ its h2 rv (by simpa [PyData.showable] using hs) fun t ht => Nat.le_trans (tupleText_mem_le ht) hz'
      have hna : a ∉ bs := not_mem_of_deeper rd (by simp only [PyData.depth]; omega) hb
      simp only [PyData.depth] at hd
      simp only [PyData.shown] at fin
      refine call_repr_slot (T := "tuple") (idr := "tuple.__repr__") (by omega) ⟨o, ho, hc⟩ PySem.F.slot_tuple_repr ?_
      exact call_tuple_reprK ho hc hdt hna (by simpa using hk) hg (fun b _ => Clear.nil b) (by show X.A.units + 1 + _ < cLine; omega) (fun _ _ e => e) (fun h' u tk k => ⟨_, _, rfl, fin h' u tk k⟩) hz'
  | dict kvs =>
    obtain ⟨as0, rd⟩ := Rp.reads I sub _ v u h r
    cases h with
    | @dic a od ks _ h1 h2 =>
      cases r
      obtain ⟨_, hsys, vs, kv, o, es, ep, e1, e2, e3, e4, e5, _⟩ := (Rd.ok (.inr ⟨_, sub _ _ h1⟩) I.hok)
      have hz' : (dictText (PyData.shownKv kvs)).length ≤ sizeLine := by simpa only [PyData.shown] using hz
      obtain ⟨bs, hb, hk⟩ := RpK.reprs I sub kvs _ vs es.toList h2 kv e5 (by simpa [PyData.showable] using hs) fun t ht => Nat.le_trans (dictText_mem_le ht) hz'
      have hna : a ∉ bs := not_mem_of_deeper rd (by simp only [PyData.depth]; omega) hb
      simp only [PyData.depth] at hd
      simp only [PyData.shown] at fin
      refine call_repr_slot (T := "dict") (idr := "dict.__repr__") (by omega) ⟨o, e1, e2.1⟩ PySem.F.slot_dict_repr ?_
      exact call_dict_reprK e1 e2.1 e3 hsys hna hk hg (fun b _ => Clear.nil b) (by show X.A.units + 1 + _ < cLine; omega) (fun _ _ e => e) (fun h' u tk k => ⟨_, _, rfl, fin h' u tk k⟩) hz'
/-- calls of built-ins whose arguments must be frozen -/
def rCE (K : PySem.W.Frag) (φ : List PyData → Option PyData) : List V → Hp → VK → Prop := fun vs H Q => ∃ g F st ds r, Bs g H F H F st ∧ RpA K F vs ds ∧ φ ds = some r ∧ ∀ v H' F', Bs g H F H' F' st → Rp K F' v r → Q v H'
def CallE (X : Cx) (f : Value) (φ : List PyData → Option PyData) : Prop := CallR X f (rCE X.K φ)
def reprL : List PyData → Option PyData
  | [d] => if d.showable = true ∧ d.shown.length ≤ 1000000 ∧ d.depth ≤ 60 then some (.str d.shown) else none
  | _ => none
theorem ce_repr (hg : X.A.guards = some []) (hu : X.A.units + 64 < cLine) : CallE X (.builtin "repr") reprL := fun pins s σ H vs us Q I rv ⟨g, F, st, ds, r, b, ra, h, q⟩ => by
  unfold reprL at h
  split at h
  · split at h
    · rename_i d hc
      cases h
      cases ra with
      | cons r1 r2 =>
        cases r2
        obtain ⟨u, rfl, ru⟩ := vals1 rv
        exact repr_run I hg hu b.sub r1 ru hc.1 (Nat.le_of_lt (Nat.lt_of_le_of_lt hc.2.1 (by decide))) hc.2.2 (q _ H F b (.str _))
    · cases h
  · cases h
theorem se_callE {φ : List PyData → Option PyData} {x : Str} {p pos : Pos} {id : String} {e : Expr} {es : List Expr} {ms : Ev → M (List PyData)} (hc : CallE X (.builtin id) φ) (hm : X.mg x = none) (ha : SA X (e :: es) ms) (hv : bootBuiltins x = some (.builtin id) := by decide +kernel) (hg : Gl X x := by rfl) (hn : x ≠ "__name__" := by decide) (hdb : (x == ("__debug__" : Str)) = false := by decide)
    (he : starEach (e :: es) X.env = (false, eval e X.env) :: starEach es X.env := by rfl) (hpl : (backTo pos (starEach es X.env)).any (·.1) = false := by rfl) : SE X (.Call (.Name x p) (e :: es) [] pos) (mCl φ ms) := fun g H0 F0 =>
  (pe_callB hc hg hm hv (ha g H0 F0) hn hdb he hpl).imp fun σ H Q ⟨ρ, F, st, d, st', b, s, e, q⟩ => by
    obtain ⟨ds, st1, e1, f1⟩ := bnd e
    obtain ⟨e4, rfl⟩ := lfts f1
    exact ⟨ρ, F, st, ds, st', b, s, e1, fun vs H2 F2 b2 r2 => ⟨g, F2, st', ds, d, b2.base, r2, e4, fun v H3 F3 b3 r3 => q v H3 F3 (b2.trans b3) r3⟩⟩
end
end DL
end

section
set_option Elab.async false
set_option linter.all false
set_option maxRecDepth 100000
set_option maxHeartbeats 4000000
/-! DL8: dicts on data, zip, stores into owned lists and dicts, parallel assignment. -/
namespace DL
open PySem PySem.Spec PyProof.Rows L2

/-! ### dicts as data -/
def keyOf : PyData → Option Key
  | .int i => some (.inl i)
  | .str x => some (.inr x)
  | _ => none
theorem keyOf_some {d : PyData} {k : Key} (h : keyOf d = some k) : d = keyD k := by
  cases d <;> first | (cases h; rfl) | cases h
theorem keyOf_keyD (k : Key) : keyOf (keyD k) = some k := by cases k <;> rfl
def dlook (kvs : List (PyData × PyData)) (k : Key) : Option PyData := (kvs.find? fun kv => decide (keyOf kv.1 = some k)).map (·.2)
def dput (kvs : List (PyData × PyData)) (k : Key) (d : PyData) : List (PyData × PyData) :=
  if (kvs.any fun kv => decide (keyOf kv.1 = some k)) = true then kvs.map (fun kv => if keyOf kv.1 = some k then (kv.1, d) else kv) else kvs ++ [(keyD k, d)]
def dmerge (kvs : List (PyData × PyData)) (more : List (Key × PyData)) : List (PyData × PyData) := more.foldl (fun acc kv => dput acc kv.1 kv.2) kvs
section
variable {K : PySem.W.Frag} {F : Hp}
theorem key_dec (k k' : Key) : decide (keyOf (keyD k') = some k) = decide (k' = k) := by
  rw [keyOf_keyD]
  by_cases h : k' = k
  · subst h; simp
  · rw [decide_eq_false h, decide_eq_false (fun z => h (Option.some.inj z))]
theorem RpK.look (k : Key) : ∀ {kvs : List (PyData × PyData)} {ks : List (Key × V)}, RpK K F ks kvs → (valV ks k = none ∧ dlook kvs k = none) ∨ ∃ v d, valV ks k = some v ∧ dlook kvs k = some d ∧ Rp K F v d
  | [], _, .nil => .inl ⟨rfl, rfl⟩
  | _ :: kvs, _, .cons (k := k') (v := v) (d := d) r t => by
    have e := key_dec k k'
    by_cases h : k' = k
    · subst h
      refine .inr ⟨v, d, valV_pos rfl, ?_, r⟩
      unfold dlook
      rw [List.find?_cons, e]; simp
    · rw [valV_neg (show ¬ (k', v).1 = k from h)]
      have e2 : dlook ((keyD k', d) :: kvs) k = dlook kvs k := by
        unfold dlook
        rw [List.find?_cons, e, decide_eq_false h]
      rw [e2]
      exact RpK.look k t
theorem RpK.any (k : Key) : ∀ {kvs : List (PyData × PyData)} {ks : List (Key × V)}, RpK K F ks kvs → (ks.any fun kv => decide (kv.1 = k)) = (kvs.any fun kv => decide (keyOf kv.1 = some k))
  | [], _, .nil => rfl
  | _ :: kvs, _, .cons (k := k') r t => by rw [List.any_cons, List.any_cons, RpK.any k t, key_dec]
theorem RpK.repl (k : Key) {v : V} {d : PyData} (rv : Rp K F v d) : ∀ {kvs : List (PyData × PyData)} {ks : List (Key × V)}, RpK K F ks kvs →
    RpK K F (ks.map fun kv => if kv.1 = k then (kv.1, v) else kv) (kvs.map fun kv => if keyOf kv.1 = some k then (kv.1, d) else kv)
  | [], _, .nil => .nil
  | _ :: kvs, _, .cons (k := k') (v := v') (d := d') r t => by
    rw [List.map_cons, List.map_cons]
    by_cases h : k' = k
    · rw [if_pos (show (k', v').1 = k from h), if_pos (show keyOf (keyD k', d').1 = some k by rw [h]; exact keyOf_keyD k)]
      exact .cons rv (RpK.repl k rv t)
    · rw [if_neg (show ¬ (k', v').1 = k from h), if_neg (show ¬ keyOf (keyD k', d').1 = some k by rw [keyOf_keyD]; exact fun z => h (Option.some.inj z))]
      exact .cons r (RpK.repl k rv t)
theorem RpK.snoc (k : Key) {v : V} {d : PyData} (rv : Rp K F v d) : ∀ {kvs : List (PyData × PyData)} {ks : List (Key × V)}, RpK K F ks kvs → RpK K F (ks ++ [(k, v)]) (kvs ++ [(keyD k, d)])
  | [], _, .nil => .cons rv .nil
  | _ :: _, _, .cons r t => .cons r (RpK.snoc k rv t)
theorem RpK.put (k : Key) {v : V} {d : PyData} {kvs : List (PyData × PyData)} {ks : List (Key × V)} (rv : Rp K F v d) (r : RpK K F ks kvs) : RpK K F (putK ks k v) (dput kvs k d) := by
  unfold putK dput
  rw [RpK.any k r]
  split
  · exact r.repl k rv
  · exact r.snoc k rv
theorem RpK.length : ∀ {kvs : List (PyData × PyData)} {ks : List (Key × V)}, RpK K F ks kvs → ks.length = kvs.length
  | [], _, .nil => rfl
  | _ :: _, _, .cons r t => by rw [List.length_cons, List.length_cons, RpK.length t]
theorem RpK.keys : ∀ {kvs : List (PyData × PyData)} {ks : List (Key × V)}, RpK K F ks kvs → kvs.map (·.1) = ks.map fun kv => keyD kv.1
  | [], _, .nil => rfl
  | _ :: _, _, .cons r t => by rw [List.map_cons, List.map_cons, RpK.keys t]
end

section
variable {X : Cx} {w : Bool} {ws : List Nat} {e a b c o tg : Expr} {es : List Expr} {m ma mb mc : Ev → M PyData} {pos : Pos} {s : Stmt} {rest body orelse : List Stmt} {m1 m2 : Ev → M Fl}
theorem key_v {K : PySem.W.Frag} {g : Gh} {H F : Hp} {v : V} {k : Key} (r : RpB K g H F v (keyD k)) : v = kV k := by
  cases k with
  | inl i => exact RpB.int r
  | inr x => exact RpB.str r
def dgetD : PyData → PyData → Option PyData
  | .dict kvs, kd => do let k ← keyOf kd; dlook kvs k
  | _, _ => none
theorem se_dget (hu : X.A.units + 1 < cLine) (ha : SB X a ma) (hb : SB X b mb) (hs : NoSl b := by intro _ _; rfl) : SE X (.Subscript a b pos) (mOp dgetD ma mb) := fun g H0 F0 => (pe_dget hu (ha g H0 F0) (hb g H0 F0) hs).imp fun σ H Q ⟨ρ, F, st, d, st', b, s, e, q⟩ =>
  two b s e fun x y v w H2 F2 e3 b2 r1 r2 => by
    cases x <;> first | cases e3 | skip
    rename_i kvs
    obtain ⟨k, e4, e5⟩ := Option.bind_eq_some_iff.mp (show (keyOf y).bind (fun k => dlook kvs k) = some d from e3)
    cases keyOf_some e4
    cases key_v r2
    obtain ⟨a, ks, rfl, h, rk⟩ := r1.dict b2.sub
    rcases rk.look k with ⟨_, z⟩ | ⟨v, d', z1, z2, rz⟩
    · rw [z] at e5; cases e5
    · rw [z2] at e5; cases e5
      exact ⟨a, v, rfl, by rw [← z1]; exact (show DGet _ _ _ _ from .inl ⟨_, _, h, rfl, rfl⟩), q v H2 F2 b2 rz⟩
/-- d.get(k, x) -/
def dget2D (d kd x : PyData) : Option PyData := match d with
  | .dict kvs => do let k ← keyOf kd; pure ((dlook kvs k).getD x)
  | _ => none
def mOp3 {α : Type} (φ : PyData → PyData → PyData → Option α) (ma mb mc : Ev → M PyData) : Ev → M α := fun ρ => do let x ← ma ρ; let y ← mb ρ; let z ← mc ρ; lft (φ x y z)
theorem se_dget2 {apos cpos : Pos} (hu : X.A.units + 1 < cLine) (ha : SB X a ma) (hb : SB X b mb) (hc : SE X c mc) (hm : M2 X a "get" apos b c cpos := by exact ⟨rfl, rfl, rfl, rfl⟩) : SE X (.Call (.Attribute a "get" apos) [b, c] [] cpos) (mOp3 dget2D ma mb mc) := fun g H0 F0 =>
  (pe_dget2 hu (ha g H0 F0) (hb g H0 F0) (hc g H0 F0) hm).imp fun σ H Q ⟨ρ, F, st, r, st', b, s, e, q⟩ => by
    obtain ⟨d, st1, e1, f1⟩ := bnd e
    obtain ⟨kd, st2, e2, f2⟩ := bnd f1
    obtain ⟨x, st3, e3, f3⟩ := bnd f2
    obtain ⟨e4, rfl⟩ := lfts f3
    cases d <;> first | cases e4 | skip
    rename_i kvs
    obtain ⟨k, e5, e6⟩ := Option.bind_eq_some_iff.mp (show (keyOf kd).bind (fun k => some ((dlook kvs k).getD x)) = some r from e4)
    cases keyOf_some e5
    cases e6
    refine ⟨ρ, F, st, _, st1, b, s, e1, fun v H1 F1 b1 r1 => ?_⟩
    obtain ⟨a, ks, rfl, h, rk⟩ := r1.dict b1.sub
    refine ⟨a, rfl, .inl ⟨ks, h⟩, ρ, F1, st1, _, st2, b.trans b1, s.step b1.stp, e2, fun y H2 F2 b2 r2 => ⟨ρ, F2, st2, x, st', (b.trans b1).trans b2, (s.step b1.stp).step b2.stp, e3, fun z H3 F3 b3 r3 => ?_⟩⟩
    have r1' := (r1.step b2.stp).step b3.stp
    cases key_v r2
    obtain ⟨a', ks', ea, h', rk'⟩ := r1'.dict b3.sub
    cases ea
    refine ⟨_, (show DGet _ _ _ _ from .inl ⟨_, _, h', rfl, rfl⟩), ?_⟩
    have B := (b1.trans b2).trans b3
    rcases rk'.look k with ⟨z1, z2⟩ | ⟨v, d', z1, z2, rz⟩
    · rw [z1]; rw [z2] at q; exact q z H3 F3 B r3
    · rw [z1]; rw [z2] at q; exact q v H3 F3 B rz
def inD : PyData → PyData → Option PyData
  | kd, .dict kvs => do let k ← keyOf kd; pure (.bool (dlook kvs k).isSome)
  | _, _ => none
theorem inD_some {x y d : PyData} (h : inD x y = some d) : ∃ kvs k, y = .dict kvs ∧ x = keyD k ∧ d = .bool (dlook kvs k).isSome := by
  cases y with
  | dict kvs =>
    obtain ⟨k, e5, e6⟩ := Option.bind_eq_some_iff.mp (show (keyOf x).bind (fun k => some (.bool (dlook kvs k).isSome)) = some d from by cases x <;> exact h)
    cases e6
    exact ⟨kvs, k, rfl, keyOf_some e5, rfl⟩
  | _ => cases x <;> cases h
theorem se_din (hu : X.A.units + 1 < cLine) (ha : SB X a ma) (hb : SB X b mb) (hm : behindInMarks .In b = false := by rfl) : SE X (.Compare a [.In] [b] pos) (mOp inD ma mb) := fun g H0 F0 => (pe_cmp (pc_din hu (ha g H0 F0) (hb g H0 F0)) hm).imp fun σ H Q ⟨ρ, F, st, d, st', b, s, e, q⟩ =>
  two b s e fun x y v w H2 F2 e3 b2 r1 r2 => by
    obtain ⟨kvs, k, rfl, rfl, rfl⟩ := inD_some e3
    cases key_v r1
    obtain ⟨a, ks, rfl, h, rk⟩ := r2.dict b2.sub
    refine ⟨a, _, rfl, (show DGet _ _ _ _ from .inl ⟨_, _, h, rfl, rfl⟩), ?_⟩
    rcases rk.look k with ⟨z1, z2⟩ | ⟨v, d', z1, z2, rz⟩
    · rw [z1]; rw [z2] at q; exact q _ H2 F2 b2 (.bl _)
    · rw [z1]; rw [z2] at q; exact q _ H2 F2 b2 (.bl _)

/-! ### x[k] = v of an owned dict, xs[i] = v of an owned list -/
def mDPut (i : Nat) (mk mv : Ev → M PyData) : Ev → M Fl := fun ρ => do
  let d ← mv ρ
  let kvs ← lft (odAt ρ i)
  let kd ← mk ρ
  let k ← lft (keyOf kd)
  let kvs ← lft (szI kvs.length (dput kvs k d))
  pure (.nx (ρ.set i (.od kvs)))
theorem ss_dput {i : Nat} {x : Str} {xp tpos : Pos} {mk mv : Ev → M PyData} (hu : X.A.units + 1 < cLine) (hv : PE X (.Name x xp) (tVar i)) (hk : SB X b mk) (he : SE X e mv) (hs : swapsWith e (some (.Subscript (.Name x xp) b tpos)) pos.line X.env = pure false := by rfl) :
    SS X (.Assign [.Subscript (.Name x xp) b tpos] e pos) (mDPut i mk mv) := fun g H0 F0 => (ps_dput hu hv (hk g H0 F0) (he g H0 F0) hs).imp fun D σ H ⟨ρ, F, st, fl, st', b, sl, e, q⟩ => by
  obtain ⟨d, st1, e1, f1⟩ := bnd e
  obtain ⟨kvs, st2, e2, f2⟩ := bnd f1
  obtain ⟨e2', rfl⟩ := lfts e2
  obtain ⟨kd, st3, e3, f3⟩ := bnd f2
  obtain ⟨k, st4, e4, f4⟩ := bnd f3
  obtain ⟨e4', rfl⟩ := lfts e4
  obtain ⟨kvs2, st5, e5, f5⟩ := bnd f4
  obtain ⟨e5', rfl⟩ := lfts e5
  obtain ⟨rfl, hz⟩ := szI_some e5'
  obtain ⟨rfl, rfl⟩ := purs f5
  cases keyOf_some e4'
  refine ⟨ρ, F, st, d, st2, b, sl, e1, fun v H1 F1 b1 r1 => ?_⟩
  have hρ := odAt_some e2'
  have s1 := sl.step b1.stp
  obtain ⟨y, hσ, a, ks, rfl, h, n, n1, n2, n3, r⟩ := s1.get hρ
  refine ⟨_, hσ, ρ, F1, st2, _, st', b.trans b1, s1, e3, fun w H2 F2 b2 r2 => ?_⟩
  cases key_v r2
  have h' := b2.stp.kp _ _ h n1 n2
  have n' := b2.stp.own n h
  refine ⟨a, _, rfl, DPut.k h' (line6 (by rw [r.length]; exact hz)), ?_⟩
  exact q σ _ F2 (((b.trans b1).trans b2).updO n3 n' n1 n2) (b1.stp.fr.trans b2.stp.fr) ((s1.step b2.stp).updO hρ rfl hσ ⟨a, _, rfl, upd_same, n', n1, n2, n3, RpK.put k (Rp.mono b2.stp.fr _ _ r1) (RpK.mono b2.stp.fr _ _ r)⟩)
def setL (ds : List PyData) : PyData → PyData → Option (List PyData)
  | .int i, d => (ixN ds.length i).map fun j => ds.set j d
  | _, _ => none
def mSetIx (i : Nat) (mk mv : Ev → M PyData) : Ev → M Fl := fun ρ => do
  let d ← mv ρ
  let ds ← lft (olAt ρ i)
  let kd ← mk ρ
  let ds ← lft (setL ds kd d)
  pure (.nx (ρ.set i (.ol ds)))
theorem ss_setIx {i : Nat} {x : Str} {xp tpos : Pos} {mk mv : Ev → M PyData} (hv : PE X (.Name x xp) (tVar i)) (hk : SB X b mk) (he : SE X e mv) (hs : swapsWithSole [.Subscript (.Name x xp) b tpos] e pos.line X.env = pure false := by rfl) (hw : swappedStores [.Subscript (.Name x xp) b tpos] e X.env = pure none := by rfl)
    (h1 : (assignEach [.Subscript (.Name x xp) b tpos] X.env).map (·.2) = [assign (.Subscript (.Name x xp) b tpos) X.env] := by rfl)
    (ha : ∀ v, assign (.Subscript (.Name x xp) b tpos) X.env v = (do
      let ov ← holding [v] (eval (.Name x xp) X.env)
      let iv ← holding [v, ov] (eval b X.env)
      standAt tpos
      holding [v, ov, iv] (setItem ov iv v)
      release [v, ov, iv] []) := by intro _; rfl) :
    SS X (.Assign [.Subscript (.Name x xp) b tpos] e pos) (mSetIx i mk mv) := fun g H0 F0 => (ps_asg (he g H0 F0) (pg_sub hv (hk g H0 F0) set_list ha) hs hw h1).imp fun D σ H ⟨ρ, F, st, fl, st', b, sl, e, q⟩ => by
  obtain ⟨d, st1, e1, f1⟩ := bnd e
  obtain ⟨ds, st2, e2, f2⟩ := bnd f1
  obtain ⟨e2', rfl⟩ := lfts e2
  obtain ⟨kd, st3, e3, f3⟩ := bnd f2
  obtain ⟨ds2, st5, e5, f5⟩ := bnd f3
  obtain ⟨e5', rfl⟩ := lfts e5
  obtain ⟨rfl, rfl⟩ := purs f5
  refine ⟨ρ, F, st, d, st2, b, sl, e1, fun v H1 F1 b1 r1 => ?_⟩
  have hρ := olAt_some e2'
  have s1 := sl.step b1.stp
  obtain ⟨y, hσ, a, vs, rfl, h, n, n1, n2, n3, r⟩ := s1.get hρ
  refine ⟨_, hσ, ρ, F1, st2, kd, st', b.trans b1, s1, e3, fun w H2 F2 b2 r2 => ?_⟩
  cases kd <;> first | cases e5' | skip
  rename_i k
  obtain ⟨j, ej, rfl⟩ := Option.map_eq_some_iff.mp (show (ixN ds.length k).map (fun j => ds.set j d) = some ds2 from e5')
  cases r2.int
  have h' := b2.stp.kp _ _ h n1 n2
  have n' := b2.stp.own n h
  refine ⟨a, vs, k, j, rfl, rfl, h', by rw [r.length]; exact ej, ?_⟩
  exact q σ _ F2 (((b.trans b1).trans b2).updO n3 n' n1 n2) (b1.stp.fr.trans b2.stp.fr) ((s1.step b2.stp).updO hρ rfl hσ ⟨a, _, rfl, upd_same, n', n1, n2, n3, RpA.set (Rp.mono b2.stp.fr _ _ r1) j (RpA.mono b2.stp.fr _ _ r)⟩)

/-! ### a, b = x, y with plain local names -/
def mPar (is : List Nat) (ms : Ev → M (List PyData)) : Ev → M Fl := fun ρ => do
  let ds ← ms ρ
  let ds ← lft (lenI is.length ds)
  pure (.nx ((is.zip ds).foldl (fun ρ p => ρ.set p.1 (.vl p.2)) ρ))
theorem ss_par {i j : Nat} {x y : Str} {ms : Ev → M (List PyData)} {px py pt : Pos} {kt k2 : Nat} {pt2 : Pos} (hc : X.calm = true) (hN : X.N.Nodup) (ha : SA X [a, b] ms) (hi : X.N[i]? = some x := by rfl) (hj : X.N[j]? = some y := by rfl) (hij : i ≠ j := by decide)
    (hx : X.env.scope.names.lookup x = some .local := by rfl) (hy : X.env.scope.names.lookup y = some .local := by rfl) (hw : swappedStores [.Tuple [.Name x px, .Name y py] kt pt] (.Tuple [a, b] k2 pt2) X.env = pure (some [x, y]) := by rfl)
    (hs : swapsWithSole [.Tuple [.Name x px, .Name y py] kt pt] (.Tuple [a, b] k2 pt2) pos.line X.env = pure false := by rfl) : SS X (.Assign [.Tuple [.Name x px, .Name y py] kt pt] (.Tuple [a, b] k2 pt2) pos) (mPar [i, j] ms) := fun g H0 F0 =>
  (ps_par hc hN hi hj hij hx hy (ha g H0 F0) hw hs).imp fun D σ H ⟨ρ, F, st, fl, st', b, sl, e, q⟩ => by
  obtain ⟨ds, st1, e1, f1⟩ := bnd e
  obtain ⟨ds2, st2, e2, f2⟩ := bnd f1
  obtain ⟨e2', rfl⟩ := lfts e2
  obtain ⟨rfl, hl⟩ := lenI_some e2'
  obtain ⟨rfl, rfl⟩ := purs f2
  refine ⟨ρ, F, st, ds, st', b, sl, e1, fun vs H1 F1 b1 r1 => ?_⟩
  match ds, vs, r1, hl with
  | [d1, d2], [v1, v2], .cons r1 (.cons r2 .nil), _ =>
    exact ⟨v1, v2, rfl, q _ H1 F1 (b.trans b1) b1.stp.fr (((sl.step b1.stp).put (s := .vl d1) ⟨v1, rfl, r1⟩ rfl).put (s := .vl d2) ⟨v2, rfl, r2⟩ rfl)⟩
theorem ss_par3 {i j l : Nat} {x y z : Str} {ms : Ev → M (List PyData)} {px py pz pt : Pos} {kt k2 : Nat} {pt2 : Pos} (hc : X.calm = true) (hN : X.N.Nodup) (ha : SA X [a, b, c] ms) (hi : X.N[i]? = some x := by rfl) (hj : X.N[j]? = some y := by rfl) (hl : X.N[l]? = some z := by rfl) (hij : i ≠ j := by decide) (hil : i ≠ l := by decide) (hjl : j ≠ l := by decide)
    (hx : X.env.scope.names.lookup x = some .local := by rfl) (hy : X.env.scope.names.lookup y = some .local := by rfl) (hz : X.env.scope.names.lookup z = some .local := by rfl) (hw : swappedStores [.Tuple [.Name x px, .Name y py, .Name z pz] kt pt] (.Tuple [a, b, c] k2 pt2) X.env = pure (some [x, y, z]) := by rfl)
    (hs : swapsWithSole [.Tuple [.Name x px, .Name y py, .Name z pz] kt pt] (.Tuple [a, b, c] k2 pt2) pos.line X.env = pure false := by rfl) : SS X (.Assign [.Tuple [.Name x px, .Name y py, .Name z pz] kt pt] (.Tuple [a, b, c] k2 pt2) pos) (mPar [i, j, l] ms) := fun g H0 F0 =>
  (ps_par3 hc hN hi hj hl hij hil hjl hx hy hz (ha g H0 F0) hw hs).imp fun D σ H ⟨ρ, F, st, fl, st', b, sl, e, q⟩ => by
  obtain ⟨ds, st1, e1, f1⟩ := bnd e
  obtain ⟨ds2, st2, e2, f2⟩ := bnd f1
  obtain ⟨e2', rfl⟩ := lfts e2
  obtain ⟨rfl, hl⟩ := lenI_some e2'
  obtain ⟨rfl, rfl⟩ := purs f2
  refine ⟨ρ, F, st, ds, st', b, sl, e1, fun vs H1 F1 b1 r1 => ?_⟩
  match ds, vs, r1, hl with
  | [d1, d2, d3], [v1, v2, v3], .cons r1 (.cons r2 (.cons r3 .nil)), _ =>
    exact ⟨v1, v2, v3, rfl, q _ H1 F1 (b.trans b1) b1.stp.fr ((((sl.step b1.stp).put (s := .vl d1) ⟨v1, rfl, r1⟩ rfl).put (s := .vl d2) ⟨v2, rfl, r2⟩ rfl).put (s := .vl d3) ⟨v3, rfl, r3⟩ rfl)⟩

/-! ### zip of two lists, of two tuples -/
def zipD : List PyData → Option (List PyData)
  | [.list xs, .list ys] => some (List.zipWith (fun x y => .tuple [x, y]) xs ys)
  | [.tuple xs, .tuple ys] => some (List.zipWith (fun x y => .tuple [x, y]) xs ys)
  | _ => none
theorem zip_get {xs ys : List PyData} {i : Nat} {d : PyData} (h : (List.zipWith (fun x y => PyData.tuple [x, y]) xs ys)[i]? = some d) : ∃ x y, xs[i]? = some x ∧ ys[i]? = some y ∧ d = .tuple [x, y] := by
  rw [List.getElem?_zipWith] at h
  cases hx : xs[i]? with
  | none => rw [hx] at h; simp at h
  | some x =>
    cases hy : ys[i]? with
    | none => rw [hx, hy] at h; simp at h
    | some y => rw [hx, hy] at h; simp at h; exact ⟨x, y, rfl, rfl, h.symm⟩
theorem itz_ok {K : PySem.W.Frag} {a b : Addr} {vs ws : List V} {xs ys : List PyData} {R : Gh → Hp → Hp → Prop} (h : ∀ g H F, R g H F → Same F H → (H a = some (.lst vs) ∧ RpA K F vs xs) ∧ H b = some (.lst ws) ∧ RpA K F ws ys) : ItOk true K (Itz K a b) (List.zipWith (fun x y => .tuple [x, y]) xs ys) R := fun i g H0 F0 H2 F2 st2 b2 p => by
  obtain ⟨⟨h1, h2⟩, h3, h4⟩ := h g H2 F2 p b2.sub
  refine ⟨fun d hd => ?_, fun hl => ⟨vs, ws, SqL.of h1, SqL.of h3, by rw [List.length_zipWith] at hl; rw [h2.length, h4.length]; omega⟩⟩
  obtain ⟨x, y, ex, ey, rfl⟩ := zip_get hd
  obtain ⟨v, e1, r1⟩ := h2.get ex
  obtain ⟨u, e2, r2⟩ := h4.get ey
  refine ⟨⟨vs, ws, v, u, SqL.of h1, SqL.of h3, e1, e2⟩, fun z H3 ⟨T, v', u', ez, hT, eH, y1, y2⟩ => ?_⟩
  have q1 := y1 vs (SqL.of h1)
  rw [e1] at q1; cases q1
  have q2 := y2 ws (SqL.of h3)
  rw [e2] at q2; cases q2
  subst ez
  subst eH
  exact ⟨_, b2.base.newF hT, .inr ⟨rfl, T, _, _, rfl, rfl, upd_same, RpA.mono (Same.updN (noneF b2 hT)) _ _ (.cons r1 (.cons r2 .nil))⟩⟩
theorem itzT_ok {K : PySem.W.Frag} {a b : Addr} {vs ws : List V} {xs ys : List PyData} {R : Gh → Hp → Hp → Prop} (h : ∀ g H F, R g H F → Same F H → (SqT K H a vs ∧ RpA K F vs xs) ∧ SqT K H b ws ∧ RpA K F ws ys) : ItOk true K (RZ.ItzT K a b) (List.zipWith (fun x y => .tuple [x, y]) xs ys) R := fun i g H0 F0 H2 F2 st2 b2 p => by
  obtain ⟨⟨h1, h2⟩, h3, h4⟩ := h g H2 F2 p b2.sub
  refine ⟨fun d hd => ?_, fun hl => ⟨vs, ws, h1, h3, by rw [List.length_zipWith] at hl; rw [h2.length, h4.length]; omega⟩⟩
  obtain ⟨x, y, ex, ey, rfl⟩ := zip_get hd
  obtain ⟨v, e1, r1⟩ := h2.get ex
  obtain ⟨u, e2, r2⟩ := h4.get ey
  refine ⟨⟨vs, ws, v, u, h1, h3, e1, e2⟩, fun z H3 ⟨T, v', u', ez, hT, eH, y1, y2⟩ => ?_⟩
  have q1 := y1 vs h1
  rw [e1] at q1; cases q1
  have q2 := y2 ws h3
  rw [e2] at q2; cases q2
  subst ez
  subst eH
  exact ⟨_, b2.base.newF hT, .inr ⟨rfl, T, _, _, rfl, rfl, upd_same, RpA.mono (Same.updN (noneF b2 hT)) _ _ (.cons r1 (.cons r2 .nil))⟩⟩
theorem RpA.two {K : PySem.W.Frag} {F : Hp} {vs : List V} {d e : PyData} (r : RpA K F vs [d, e]) : ∃ v w, vs = [v, w] ∧ Rp K F v d ∧ Rp K F w e := by
  cases r with
  | cons r1 r2 => cases r2 with
    | cons r3 r4 => cases r4; exact ⟨_, _, rfl, r1, r3⟩
theorem si_zip {p tpos : Pos} {elts : List Expr} {kk : Nat} {ms : Ev → M (List PyData)} (hm : X.mg "zip" = none) (ha : SA X [a, b] ms) (hg : Gl X "zip" := by rfl) (hs : starEach [a, b] X.env = (false, eval a X.env) :: starEach [b] X.env := by rfl) (hpl : (backTo pos (starEach [b] X.env)).any (·.1) = false := by rfl) :
    SI true X (.Tuple elts kk tpos) (.Call (.Name "zip" p) [a, b] [] pos) (mCl zipD ms) := fun g H0 F0 => (RZ.pi_zipA hg hm (ha g H0 F0) hs hpl).imp fun σ H R ⟨ρ, F, st, ds, st', b, sl, e, q⟩ => by
  obtain ⟨x, st1, e1, f1⟩ := bnd e
  obtain ⟨e4, rfl⟩ := lfts f1
  refine ⟨ρ, F, st, x, st', b, sl, e1, fun vs H1 F1 b1 r1 => ?_⟩
  unfold zipD at e4
  split at e4
  · cases e4
    obtain ⟨v, u, rfl, r2, r3⟩ := r1.two
    cases r2 with
    | lst h1 h2 => cases r3 with
      | lst h3 h4 => exact ⟨_, _, _, _, rfl, .inl ⟨SqL.of (b1.sub _ _ h1), SqL.of (b1.sub _ _ h3), q _ H1 F1 b1 (itz_ok fun _ H F p s => ⟨⟨s _ _ (p _ _ h1), RpA.mono p _ _ h2⟩, s _ _ (p _ _ h3), RpA.mono p _ _ h4⟩)⟩⟩
  · cases e4
    obtain ⟨v, u, rfl, r2, r3⟩ := r1.two
    cases r2 with
    | tup h1 h2 => cases r3 with
      | tup h3 h4 => exact ⟨_, _, _, _, rfl, .inr ⟨Same.sqT b1.sub h1.sq, Same.sqT b1.sub h3.sq, q _ H1 F1 b1 (itzT_ok fun _ H F p s => ⟨⟨Same.sqT s (Same.sqT p h1.sq), RpA.mono p _ _ h2⟩, Same.sqT s (Same.sqT p h3.sq), RpA.mono p _ _ h4⟩)⟩⟩
  · cases e4
end
end DL
end

section
set_option Elab.async false
set_option linter.all false
set_option maxRecDepth 100000
set_option maxHeartbeats 4000000
/-! DL9: {**a, **b}; dict(..); sorted(d); keys of a dict walked; [::-1]. -/
namespace PySem
open MeetsSeq F
section
variable {prog : Program} {w : World} {K : Type} [DecidableEq K] {knd : KeyKind prog w K} {A : Around} {E : Value → Shared → Prop} {s : Shared}
theorem dl_dictPut {d : Addr} {kvs : List (K × Value)} {k : K} {key v : Value} {Q : Unit → Shared → Prop} (hkey : knd.is k key = true) (hm : s.heap.DictOf knd d kvs)
    (hQ : ∀ h', h'.DictOf knd d (stored kvs k v) → Heap.SameBut d s.heap h' → Q () { s with heap := h' })
    (hsz : kvs.length ≤ sizeLine) :
    wpAny (model prog w) A (dictPut d (knd.hash k) key v) Q E s := by
  obtain ⟨o, es, ep, ho, hc, hd, hk, hp, hn⟩ := hm
  have hes : es.size ≤ sizeLine := by have e1 := hp.length; have e2 : es.toList.length = es.size := by simp
                                      omega
  unfold dictPut
  refine wpAny_bind (wpAny_dictFind_of hkey ho hd hk ?_)
  have hidx : (es.findIdx? fun e => knd.is k e.key) = kvs.findIdx? fun kv => decide (kv.1 = k) := by
    rw [← hp.findIdx k]; obtain ⟨l⟩ := es; simp
  cases hi : es.findIdx? fun e => knd.is k e.key with
  | some i =>
    refine wpAny_updateDict ho hd (hQ _ ⟨_, _, ep, Heap.get?_update_self _ ho (Obj.isFreed_of_dict (Obj.data_mapDict hd _)),
      hc.mapDict _, Obj.data_mapDict hd _, hk.modify _ _, ?_, ?_⟩ (Heap.SameBut.update ..))
    · rw [stored, if_pos (any_of_findIdx_some (hidx ▸ hi))]
      have hl : (es.toList.findIdx? fun e => knd.is k e.key) = some i := by rw [← hi]; obtain ⟨l⟩ := es; simp
      have := hp.modify hn hl v
      obtain ⟨l⟩ := es
      simpa using this
    · rw [stored, if_pos (any_of_findIdx_some (hidx ▸ hi)), keys_map_store]; exact hn
  | none =>
    have hnot : k ∉ kvs.map (·.1) := not_mem_of_findIdx_none (hidx ▸ hi)
    have hany : ¬ (kvs.any fun kv => decide (kv.1 = k)) = true := by
      rw [List.any_eq_true]; rintro ⟨kv, hkv, he⟩
      exact hnot (List.mem_map.mpr ⟨kv, hkv, of_decide_eq_true he⟩)
    refine wpAny_updateDictKeys (hz := hes) ho hd (hQ _ ⟨_, _, ep + 1, Heap.get?_update_self _ ho (Obj.isFreed_of_dict (Obj.data_mapDictKeys hd _)),
      hc.mapDictKeys _, Obj.data_mapDictKeys hd _, hk.push hkey _, ?_, ?_⟩ (Heap.SameBut.update ..))
    · rw [stored, if_neg hany]
      have := hp.append hkey (knd.hash k) v
      obtain ⟨l⟩ := es
      simpa using this
    · rw [stored, if_neg hany, List.map_append, List.nodup_append]
      refine ⟨hn, by simp, ?_⟩
      intro a ha b hb
      simp only [List.map_cons, List.map_nil, List.mem_singleton] at hb
      subst hb
      exact fun e => hnot (e ▸ ha)
theorem pairs_at : ∀ {es : List DictEntry} {kvs : List (K × Value)} {i : Nat} {e : DictEntry} {kv : K × Value}, Pairs knd es kvs → es[i]? = some e → kvs[i]? = some kv → knd.is kv.1 e.key = true ∧ e.val = kv.2
  | _, _, 0, _, _, .cons h1 h2 _, e1, e2 => by cases e1; cases e2; exact ⟨h1, h2⟩
  | _, _, i + 1, _, _, .cons _ _ h3, e1, e2 => pairs_at (i := i) h3 (by simpa using e1) (by simpa using e2)
  | _, _, _, _, _, .nil, e1, _ => by simp at e1
theorem dl_mergeMapping {d a : Addr} {acc kvs : List (K × Value)} {Q : Unit → Shared → Prop} (hda : a ≠ d) (hs : (a == sysModules) = false) (hd : s.heap.DictOf knd d acc) (ha : s.heap.DictOf knd a kvs) (hz : acc.length + kvs.length ≤ sizeLine)
    (h : ∀ h', h'.DictOf knd d (merged acc kvs) → Heap.SameBut d s.heap h' → Q () { s with heap := h' }) : wpAny (model prog w) A (mergeMapping d (.ref a) false) Q E s := by
  obtain ⟨oa, es, ep, ha1, ha2, ha3, ha4, ha5, ha6⟩ := id ha
  obtain ⟨od, es', ep', hd1, hd2, hd3, hd4, hd5, hd6⟩ := id hd
  unfold mergeMapping
  refine wpAny_bind (wpAny_isInstance (U := "dict") ha.typeIs sub_dict_dict ?_)
  rw [if_pos rfl]
  refine wpAny_bind (wpAny_specialOf ha.typeIs F.slot_dict_iter.lookup (wpAny_bind (wpAny_pure ?_)))
  show wpAny _ _ (ite ((a == sysModules) = true) _ _) _ _ s
  rw [hs, if_neg Bool.false_ne_true]
  refine wpAny_bind (wpAny_dictEntries hd1 hd3 ?_)
  show wpAny _ _ (ite (es'.isEmpty = true) _ _) _ _ s
  have hlen : es.toList.length = kvs.length := ha5.length
  have main : ∀ (f : Nat → PUnit → Sem (ForInStep PUnit)), (∀ i u, f i u = (do
          let __do_lift ← dictEntries a
          match __do_lift[i]? with
            | some e => do
              holding [e.key, e.val] (dictPut d e.hash e.key e.val)
              let __do_lift ← dictEpoch a
              if (__do_lift != ep) = true then do
                  unsupported "dict.changed-during-merge"
                  pure (ForInStep.yield PUnit.unit)
                else pure (ForInStep.yield PUnit.unit)
            | _ => do
              unsupported "dict.changed-during-merge"
              pure (ForInStep.yield PUnit.unit))) → wpAny (model prog w) A (do forIn (List.range es.size) PUnit.unit f; pure ()) Q E s := by
    intro f hf
    refine wpAny_bind (wpAny_forIn_list f (fun l _ s' => ∃ i, l = List.range' i (es.size - i) ∧ i ≤ es.size ∧ ∃ h', s' = { s with heap := h' } ∧ h'.DictOf knd d (merged acc (kvs.take i)) ∧ Heap.SameBut d s.heap h') _ ?_ ?_ _ _ ⟨0, by rw [Nat.sub_zero, List.range_eq_range'], Nat.zero_le _, s.heap, rfl, hd, .refl _ _⟩)
    · rintro x rest b s' ⟨i, e, hi, h', rfl, hm, sb⟩
      have hlt : i < es.size := by
        rcases Nat.lt_or_ge i es.size with z | z
        · exact z
        · rw [Nat.sub_eq_zero_of_le z] at e; cases e
      obtain ⟨m, hm'⟩ : ∃ m, es.size - i = m + 1 := ⟨es.size - i - 1, by omega⟩
      rw [hm', List.range'_succ] at e
      injection e with e1 e2
      subst e1
      have ha1' : h'.get? a = some oa := by rw [sb.2 a hda]; exact ha1
      rw [hf]
      refine wpAny_bind (wpAny_dictEntries (s := { s with heap := h' }) ha1' ha3 ?_)
      obtain ⟨kv, hkv⟩ : ∃ kv, kvs[x]? = some kv := ⟨kvs[x]'(by rw [← hlen]; simpa using hlt), List.getElem?_eq_getElem _⟩
      have hx : es[x]? = some es[x] := Array.getElem?_eq_getElem hlt
      rw [hx]
      obtain ⟨p1, p2⟩ := pairs_at ha5 (show es.toList[x]? = some es[x] by simpa using hx) hkv
      obtain ⟨k', q1, q2⟩ := ha4 es[x] (Array.getElem_mem hlt)
      cases knd.inj _ _ _ q1 p1
      have ep1 : (ep != ep) = false := by simp
      refine wpAny_bind (wpAny_holding ?_)
      rw [q2, p2]
      refine dl_dictPut (s := { s with heap := h' }) p1 hm (fun h2 hm2 sb2 => ?_) (by have := merged_length_le acc (kvs.take x); rw [List.length_take] at this; omega)
      refine wpAny_bind (wpAny_dictEpoch (s := { s with heap := h2 }) (by rw [sb2.2 a hda]; exact ha1') ha3 ?_)
      rw [ep1, if_neg Bool.false_ne_true]
      refine wpAny_pure ⟨x + 1, ?_, hlt, h2, rfl, by rw [merged_take_succ acc kvs x kv hkv]; exact hm2, sb.trans sb2⟩
      rw [e2, show es.size - (x + 1) = m by omega]
    · rintro b s' ⟨i, e, hi, h', rfl, hm, sb⟩
      have : i = es.size := by
        have z := congrArg List.length e
        simp at z
        omega
      subst this
      rw [show es.size = kvs.length by rw [← hlen]; simp, List.take_length] at hm
      exact wpAny_pure (h h' hm sb)
  split
  · refine wpAny_bind (wpAny_dictEntries ha1 ha3 (wpAny_bind ?_))
    refine wpAny_forIn_array' _ (fun l _ s' => s' = s ∧ ∀ e ∈ l, carriedByValue e.key = true) _ ?_ ?_ _ _ ⟨rfl, fun e he => ?_⟩
    · rintro x rest b s' ⟨rfl, hc⟩
      have := hc x List.mem_cons_self
      cases hx : x.key <;> rw [hx] at this <;> first | exact wpAny_pure ⟨rfl, fun e he => hc e (List.mem_cons_of_mem _ he)⟩ | cases this
    · rintro b s' ⟨rfl, -⟩
      refine wpAny_bind (wpAny_dictEntries ha1 ha3 (wpAny_bind (wpAny_dictEpoch ha1 ha3 ?_)))
      exact main _ fun i u => rfl
    · obtain ⟨k, hk, _⟩ := ha4 e (Array.mem_toList_iff.mp he)
      exact knd.byValue k _ hk
  · refine wpAny_bind (wpAny_dictEntries ha1 ha3 (wpAny_bind (wpAny_dictEpoch ha1 ha3 ?_)))
    exact main _ fun i u => rfl

/-- {**x, **y} -/
theorem dl_display2 {v1 v2 : Sem Value} {Q : Value → Shared → Prop}
    (h : wpAny (model prog w) A v1 (fun u1 s1 => ∃ a kvs, u1 = .ref a ∧ a ≠ s.heap.objs.size ∧ (a == sysModules) = false ∧ s1.heap.DictOf knd s.heap.objs.size [] ∧ s1.heap.DictOf knd a kvs ∧ kvs.length ≤ sizeLine ∧
      ∀ h1, h1.DictOf knd s.heap.objs.size (merged [] kvs) → Heap.SameBut s.heap.objs.size s1.heap h1 → wpAny (model prog w) A v2 (fun u2 s2 => ∃ b lvs acc, u2 = .ref b ∧ b ≠ s.heap.objs.size ∧ (b == sysModules) = false ∧ s2.heap.DictOf knd s.heap.objs.size acc ∧ s2.heap.DictOf knd b lvs ∧ acc.length + lvs.length ≤ sizeLine ∧
        ∀ h2, h2.DictOf knd s.heap.objs.size (merged acc lvs) → Heap.SameBut s.heap.objs.size s2.heap h2 → Q (.ref s.heap.objs.size) { s2 with heap := h2 }) E { s1 with heap := h1 }) E { s with heap := s.heap.push { cls := .type "dict", data := .dict #[] } }) :
    wpAny (model prog w) A (dictDisplay [(none, v1), (none, v2)]) Q E s := by
  unfold dictDisplay
  dsimp only
  rw [List.forIn_cons]
  refine wpAny_bind (wpAny_bind ?_)
  refine wpAny_bind (wpAny_pure ?_)
  refine wpAny_bind (wpAny_alloc ?_)
  refine wpAny_bind (wpAny_holding (wpAny_mono h (fun u1 s1 ⟨a, kvs, e1, hd, hs, h0, h1, hz, hq⟩ => ?_) fun _ _ e => e))
  subst e1
  refine wpAny_bind (wpAny_onRaise (wpAny_tryCatch (wpAny_onRaise (wpAny_holding (dl_mergeMapping hd hs h0 h1 (by simpa using hz) fun h1' hm1 sb1 => ?_)))))
  refine wpAny_pure ?_
  dsimp only
  rw [List.forIn_cons]
  refine wpAny_bind ?_
  refine wpAny_bind (wpAny_pure ?_)
  refine wpAny_bind (wpAny_pure ?_)
  refine wpAny_bind (wpAny_holding (wpAny_mono (hq h1' hm1 sb1) (fun u2 s2 ⟨b, lvs, acc, e2, hd2, hs2, h02, h12, hz2, hq2⟩ => ?_) fun _ _ e => e))
  subst e2
  refine wpAny_bind (wpAny_onRaise (wpAny_tryCatch (wpAny_onRaise (wpAny_holding (dl_mergeMapping hd2 hs2 h02 h12 hz2 fun h2' hm2 sb2 => ?_)))))
  refine wpAny_pure ?_
  dsimp only
  rw [List.forIn_nil]
  refine wpAny_pure (wpAny_bind (wpAny_pure (wpAny_pure (hq2 h2' hm2 sb2))))
end
end PySem
namespace DL
open PySem PySem.Spec PyProof.Rows L2
section
variable {X : Cx} {e a b c tg : Expr} {es : List Expr} {m ma mb mc : Ev → M PyData} {pos : Pos}

/-! ### dicts put together -/
def kvOf (kvs : List (PyData × PyData)) : List (Key × PyData) := kvs.filterMap fun kv => (keyOf kv.1).map fun k => (k, kv.2)
theorem RpK.merge {K : PySem.W.Frag} {F : Hp} : ∀ {more : List (PyData × PyData)} {ms : List (Key × V)} {acc : List (PyData × PyData)} {as : List (Key × V)}, RpK K F as acc → RpK K F ms more → RpK K F (mergeK as ms) (dmerge acc (kvOf more))
  | [], _, _, _, r, .nil => r
  | _ :: more, _, acc, as, r, .cons (k := k) (v := v) (d := d) h t => by
    have e : kvOf ((keyD k, d) :: more) = (k, d) :: kvOf more := by
      unfold kvOf
      rw [List.filterMap_cons, keyOf_keyD]; rfl
    rw [e]
    exact RpK.merge (as := putK as k v) (acc := dput acc k d) (RpK.put k h r) t
theorem kvOf_length {K : PySem.W.Frag} {F : Hp} : ∀ {more : List (PyData × PyData)} {ms : List (Key × V)}, RpK K F ms more → (kvOf more).length = more.length
  | [], _, .nil => rfl
  | _ :: more, _, .cons (k := k) (d := d) h t => by
    have e : kvOf ((keyD k, d) :: more) = (k, d) :: kvOf more := by
      unfold kvOf
      rw [List.filterMap_cons, keyOf_keyD]; rfl
    rw [e, List.length_cons, List.length_cons, kvOf_length t]
def tStar2 (ta tb : TE) : TE := fun σ H Q => ∀ p, H p = none → ta σ (upd H p (.dK [])) fun x H1 => ∃ a kvs, x = .ref a ∧ a ≠ p ∧ H1 p = some (.dK []) ∧ Rd H1 a (.dK kvs) ∧
  tb σ (upd H1 p (.dK (mergeK [] kvs))) fun y H2 => ∃ b lvs, y = .ref b ∧ b ≠ p ∧ H2 p = some (.dK (mergeK [] kvs)) ∧ Rd H2 b (.dK lvs) ∧ kvs.length + lvs.length ≤ 1000000 ∧ Q (.ref p) (upd H2 p (.dK (mergeK (mergeK [] kvs) lvs)))
theorem pe_star2 {ta tb : TE} (ha : PE X a ta) (hb : PE X b tb) : PE X (.Dict [none, none] [a, b] pos) (tStar2 ta tb) := ⟨fun pins s σ H Q I h => by
  have hm : (s.heap.objs.size == sysModules) = false := beq_eq_false_iff_ne.mpr (Nat.ne_of_gt I.big)
  have big : (1000000 : Nat) ≤ sizeLine := by decide
  rw [arm_eval_Dict]
  refine wpAny_bind (wpAny_standAt ?_)
  show wpAny _ _ (dictDisplay [(none, do let x ← eval a X.env; standAt pos; pure x), (none, do let x ← eval b X.env; standAt pos; pure x)]) _ _ s
  have I0 : Inv X pins σ (upd H s.heap.objs.size (.dK [])) { s with heap := s.heap.push { cls := .type "dict", data := .dict #[] } } :=
    I.laid (a := s.heap.objs.size) (o := .dK []) (t' := s.toks) (fun _ _ q => Heap.get?_push_of_some _ q) (Nat.le_refl _) (dk_empty s.heap I.big)
  refine dl_display2 (knd := mixKind X.prog X.w) (wpAny_bind (thn (ha.run pins _ σ _ _ I0 (h _ (I.hok.fresh (Nat.le_refl _)))) fun u s1 ⟨x, H1, I1, r1, a', kvs, ex, hne, hp, hd, q⟩ => ?_))
  subst ex
  obtain rfl : u = Value.ref a' := r1
  refine wpAny_bind (wpAny_standAt (wpAny_pure ?_))
  obtain ⟨z1, z2, vs, z3, z4⟩ := dk_rd I1.hok hd
  obtain ⟨y1, y2, vs0, y3, y4⟩ := dk_rd I1.hok (.inl hp)
  cases y3
  refine ⟨a', vs, rfl, hne, z2, y4, z4, by rw [← z3.length]; exact z1, fun h1 hm1 sb1 => ?_⟩
  have rl : KV (mergeK [] kvs) (merged [] vs) := KV.merge z3 .nil
  have ln : (mergeK [] kvs).length ≤ kvs.length := by have := length_mergeK kvs []; simpa using this
  have ex1 : ∃ u, h1.get? s.heap.objs.size = some u := let ⟨_, _, _, e, _⟩ := hm1; ⟨_, e⟩
  have I2 : Inv X pins σ (upd H1 s.heap.objs.size (.dK (mergeK [] kvs))) { s1 with heap := h1 } :=
    I1.write (x := s.heap.objs.size) (e := s.heap.objs.size) (t' := s1.toks) (by rw [hp]; exact True.intro) (.inl rfl) (fun b u nb e => by rw [sb1.2 b nb]; exact e) ex1 ⟨Nat.le_trans ln z1, hm, _, rl, hm1⟩
  refine wpAny_bind (thn (hb.run pins _ σ _ _ I2 q) fun u2 s2 ⟨y, H2, I3, r2, b', lvs, ey, hne2, hp2, hd2, hz, q2⟩ => ?_)
  subst ey
  obtain rfl : u2 = Value.ref b' := r2
  refine wpAny_bind (wpAny_standAt (wpAny_pure ?_))
  obtain ⟨w1, w2, us, w3, w4⟩ := dk_rd I3.hok hd2
  obtain ⟨x1, x2, us0, x3, x4⟩ := dk_rd I3.hok (.inl hp2)
  have l0 : us0.length = (mergeK [] kvs).length := x3.length.symm
  refine ⟨b', us, us0, rfl, hne2, w2, x4, w4, by rw [l0, ← w3.length]; omega, fun h2 hm2 sb2 => ?_⟩
  have ex2 : ∃ u, h2.get? s.heap.objs.size = some u := let ⟨_, _, _, e, _⟩ := hm2; ⟨_, e⟩
  have ln2 : (mergeK (mergeK [] kvs) lvs).length ≤ sizeLine := by have := length_mergeK lvs (mergeK [] kvs); omega
  exact ⟨.ref s.heap.objs.size, _, I3.write (o := .dK (mergeK (mergeK [] kvs) lvs)) (x := s.heap.objs.size) (e := s.heap.objs.size) (t' := s2.toks) (by rw [hp2]; exact True.intro) (.inl rfl) (fun b u nb e => by rw [sb2.2 b nb]; exact e) ex2 ⟨ln2, hm, _, KV.merge w3 x3, hm2⟩, rfl, q2⟩⟩


def mrgD : PyData → PyData → Option (List (PyData × PyData))
  | .dict k, .dict l => if k.length + l.length ≤ 1000000 then some (dmerge (dmerge [] (kvOf k)) (kvOf l)) else none
  | _, _ => none
theorem ne_src {g : Gh} {H0 F0 H F : Hp} {st : Pk} {p : Addr} (b : Bs g H0 F0 H F st) (hp : H p = none) : p ≠ g.a ∧ p ≠ g.l :=
  ⟨(fun z => by rw [z, b.sa] at hp; cases hp), (fun z => by rw [z, b.sl] at hp; cases hp)⟩
theorem sd_star2 (ha : SE X a ma) (hb : SE X b mb) : SD X (.Dict [none, none] [a, b] pos) (mOp mrgD ma mb) := fun g H0 F0 => (pe_star2 (ha g H0 F0) (hb g H0 F0)).imp fun σ H Q ⟨ρ, F, st, r, st', b, sl, e, q⟩ p hp => by
  obtain ⟨x, st1, e1, f1⟩ := bnd e
  obtain ⟨y, st2, e2, f2⟩ := bnd f1
  obtain ⟨e3, rfl⟩ := lfts f2
  obtain ⟨n1, n2⟩ := ne_src b hp
  unfold mrgD at e3
  split at e3
  · rename_i k l
    split at e3
    · rename_i hz
      cases e3
      have c0 := b.base.newH (o := .dK []) hp
      refine ⟨ρ, F, st, _, st1, b.trans c0, sl.step c0.stp, e1, fun v H1 F1 b1 r1 => ?_⟩
      have f1n := b1.stp.own (noneF b hp) upd_same
      have k1 := b1.stp.kp _ _ upd_same n1 n2
      cases r1 with
      | @dic a' od ks _ g1 g2 =>
        have na : a' ≠ p := fun z => by rw [z, f1n] at g1; cases g1
        refine ⟨a', ks, rfl, na, k1, .inr ⟨_, b1.sub _ _ g1⟩, ?_⟩
        have c1 := (c0.trans b1).updO (o := .dK (mergeK [] ks)) hp f1n n1 n2
        refine ⟨ρ, F1, st1, _, st', b.trans c1, sl.step c1.stp, e2, fun w H2 F2 b2 r2 => ?_⟩
        have f2n := b2.stp.own f1n upd_same
        have k2 := b2.stp.kp _ _ upd_same n1 n2
        cases r2 with
        | @dic a2 od2 ls _ g3 g4 =>
          have na2 : a2 ≠ p := fun z => by rw [z, f2n] at g3; cases g3
          refine ⟨a2, ls, rfl, na2, k2, .inr ⟨_, b2.sub _ _ g3⟩, by rw [g2.length, g4.length]; exact hz, ?_⟩
          exact q p _ _ F2 ((c1.trans b2).updO hp f2n n1 n2) hp upd_same f2n (RpK.merge (RpK.merge .nil (RpK.mono b2.stp.fr _ _ g2)) g4)
    · cases e3
  · cases e3

/-! ### dict(..) -/
def prOf : PyData → Option (Key × PyData)
  | .tuple [k, v] => (keyOf k).map fun k => (k, v)
  | _ => none
def prsOf : List PyData → Option (List (Key × PyData))
  | [] => some []
  | d :: ds => do let p ← prOf d; let ps ← prsOf ds; pure (p :: ps)
def dictL : List PyData → Option (List (PyData × PyData))
  | [.list ds] => (prsOf ds).map fun ps => dmerge [] ps
  | [.tuple ds] => (prsOf ds).map fun ps => dmerge [] ps
  | _ => none
theorem RpK.mergeP {K : PySem.W.Frag} {F : Hp} : ∀ {ps : List (Key × PyData)} {ks : List (Key × V)} {acc : List (PyData × PyData)} {as : List (Key × V)}, RpK K F as acc → Paired (fun kv p => kv.1 = p.1 ∧ Rp K F kv.2 p.2) ks ps → RpK K F (mergeK as ks) (dmerge acc ps)
  | _, _, _, _, r, .nil => r
  | _, _, acc, as, r, .cons (a := kv) (b := p) ⟨h1, h2⟩ t => by
    obtain ⟨k, v⟩ := kv
    cases (show k = p.1 from h1)
    exact RpK.mergeP (as := putK as p.1 v) (acc := dput acc p.1 p.2) (RpK.put p.1 h2 r) t
theorem call_dictZ (hcalm : X.calm = true) : CallR X (.type "dict") (fun xs H Q => ∃ (a : Addr) (ps : List Addr) (kvs : List (Key × V)), xs = [.ref a] ∧ (SqL X.K H a (ps.map V.ref) ∨ TpK X.K H a (ps.map V.ref)) ∧ Paired (fun p kv => SqT X.K H p [kV kv.1, kv.2]) ps kvs ∧
    ∀ p, H p = none → Q (.ref p) (upd H p (.dK (mergeK [] kvs)))) := by
  intro pins s σ H xs us Q I r ⟨a, ps, kvs, ex, hq, hp, q⟩
  rcases hq with hq | hq
  · exact call_dictP hcalm pins s σ H xs us Q I r ⟨a, ps, kvs, ex, hq, hp, q⟩
  subst ex
  obtain ⟨u, eu, rx⟩ := vals1 r
  subst eu
  cases rx
  have hps : ∃ its : Array Value, Vals (ps.map V.ref) its.toList ∧ PlainSeq "tuple" s.heap a its ∧ ps.length ≤ sizeLine := by
    rcases hq with ⟨o, h, hn⟩ | ⟨o, its, n, h1, h2, h3, h4, h5, h6⟩
    · obtain ⟨ho, hz, its, rv, o', h1, h2, n, h3⟩ := I.hok _ _ h
      rw [ho] at h1; cases h1
      exact ⟨its.toArray, by simpa using rv, ⟨o, n, ho, h2, hn, h3⟩, by simpa using hz⟩
    · refine ⟨its, h6, ⟨o, n, I.kIn a o h1, h2, h3, h4⟩, ?_⟩
      have := h6.length
      rw [List.length_map] at this
      rw [this, Array.length_toList]; exact h5
  obtain ⟨its, rv, pl, hz⟩ := hps
  have ei := refs_at rv
  obtain ⟨prs, rel, hl, hpr⟩ := pairs_of I hp
  have hsz : its.size = prs.length := by rw [← Array.length_toList, ei, List.length_map, hl]
  obtain ⟨us, eus, hus⟩ : ∃ us : List (Value × Value), us.length = prs.length ∧ ∀ (j : Nat) (k v : Value), us[j]? = some (k, v) → ∃ (kq : Key) (b : Addr), prs[j]? = some (kq, v) ∧ keyIs kq k = true ∧ ps[j]? = some b ∧ IsTup s.heap b #[k, v] := by
    have gen : ∀ (prs : List (Key × Value)) (n : Nat), (∀ (j : Nat) (q : Key × Value), prs[j]? = some q → ∃ (b : Addr) (u : Value), ps[n + j]? = some b ∧ IsTup s.heap b #[u, q.2] ∧ keyIs q.1 u = true) → ∃ us : List (Value × Value), us.length = prs.length ∧ ∀ (j : Nat) (k v : Value), us[j]? = some (k, v) → ∃ (kq : Key) (b : Addr), prs[j]? = some (kq, v) ∧ keyIs kq k = true ∧ ps[n + j]? = some b ∧ IsTup s.heap b #[k, v] := by
      intro prs
      induction prs with
      | nil => exact fun n _ => ⟨[], rfl, fun j k v e => by simp at e⟩
      | cons p prs ih =>
        intro n h
        obtain ⟨us, h1, h2⟩ := ih (n + 1) fun j q e => by
          have := h (j + 1) q (by simpa using e)
          rwa [show n + (j + 1) = n + 1 + j by omega] at this
        obtain ⟨b, u, e1, e2, e3⟩ := h 0 p rfl
        refine ⟨(u, p.2) :: us, by rw [List.length_cons, List.length_cons, h1], fun j k v e => ?_⟩
        cases j with
        | zero => cases e; exact ⟨p.1, b, rfl, e3, e1, e2⟩
        | succ j =>
          obtain ⟨kq, b', g1, g2, g3, g4⟩ := h2 j k v (by simpa using e)
          exact ⟨kq, b', by simpa using g1, g2, by rwa [show n + (j + 1) = n + 1 + j by omega], g4⟩
    obtain ⟨us, h1, h2⟩ := gen prs 0 fun j q e => by simpa using hpr j q e
    exact ⟨us, h1, fun j k v e => by simpa using h2 j k v e⟩
  have hit : PairItems s.heap its (fun j => (ps[j]?).getD 0) us := ⟨by rw [hsz, eus], fun j k v e => by
    obtain ⟨kq, b, g1, g2, g3, g4⟩ := hus j k v e
    obtain ⟨ob, x1, x2, n, x3⟩ := g4
    have ej : (fun j => (ps[j]?).getD 0) j = b := by show (ps[j]?).getD 0 = b; rw [g3]; rfl
    rw [ej]
    exact ⟨by rw [← Array.getElem?_toList, ei, List.getElem?_map, g3]; rfl, .inl ⟨ob, x1, x2, n, x3⟩⟩⟩
  refine PySem.call_dict_pairs (knd := mixKind X.prog X.w) (kvs := prs) (PairArg.tuple (prog := X.prog) (w := X.w) a its (fun j => (ps[j]?).getD 0) us) (I.ok.hd hcalm) ⟨pl, hit⟩ ⟨eus.symm, fun i key v e => ?_⟩ (by rw [eus, hl]; exact hz) fun h' tk hd' k => ?_
  · obtain ⟨kq, b, g1, g2, _⟩ := hus i key v e
    exact ⟨kq, g1, g2⟩
  · have hm : (s.heap.objs.size == sysModules) = false := beq_eq_false_iff_ne.mpr (Nat.ne_of_gt I.big)
    have hlen : (mergeK [] kvs).length ≤ sizeLine := by
      refine Nat.le_trans (length_mergeK kvs []) ?_
      rw [List.length_nil, Nat.zero_add, rel.length, hl]
      exact hz
    exact ⟨.ref s.heap.objs.size, upd H s.heap.objs.size (.dK (mergeK [] kvs)), I.laid (t' := tk) (fun b u e => k b u (by simp) e) (Nat.le_refl _) (show ObjOk X.prog X.w _ _ _ (.dK (mergeK [] kvs)) from ⟨hlen, hm, merged [] prs, KV.merge rel .nil, hd'⟩), rfl, q _ (I.hok.fresh (Nat.le_refl _))⟩

def rCD (K : PySem.W.Frag) (φ : List PyData → Option (List (PyData × PyData))) : List V → Hp → VK → Prop := fun vs H Q => ∃ g F st ds r, Bs g H F H F st ∧ RpBs K g H F vs ds ∧ φ ds = some r ∧
  ∀ a vs H' F', Bs g H F H' F' st → H a = none → H' a = some (.dK vs) → F' a = none → RpK K F' vs r → Q (.ref a) H'
def CallDD (X : Cx) (f : Value) (φ : List PyData → Option (List (PyData × PyData))) : Prop := CallR X f (rCD X.K φ)
theorem sd_callT {x : Str} {p : Pos} {T : String} {ms : Ev → M (List PyData)} {φ : List PyData → Option (List (PyData × PyData))} (hc : CallDD X (.type T) φ) (hm : X.mg x = none) (ha : SAB X (e :: es) ms) (hv : bootBuiltins x = some (.type T) := by decide +kernel) (hg : Gl X x := by rfl) (hn : x ≠ "__name__" := by decide) (hdb : (x == ("__debug__" : Str)) = false := by decide)
    (he : starEach (e :: es) X.env = (false, eval e X.env) :: starEach es X.env := by rfl) (hpl : (backTo pos (starEach es X.env)).any (·.1) = false := by rfl) : SD X (.Call (.Name x p) (e :: es) [] pos) (mCl φ ms) := fun g H0 F0 =>
  (pe_callTy hc hg hm hv (ha g H0 F0) hn hdb he hpl).imp fun σ H Q ⟨ρ, F, st, d, st', b, s, e, q⟩ => args_of b s e fun ds vs H2 F2 e1 b2 r2 => ⟨g, F2, st', ds, d, b2.base, r2, e1, fun a vs H3 F3 b3 h1 h2 h3 r3 => q a vs H3 F3 (b2.trans b3) (none_of b2 h1) h2 h3 r3⟩
theorem prs_ok {K : PySem.W.Frag} {F H : Hp} (sub : Same F H) : ∀ {ds : List PyData} {vs : List V} {ps : List (Key × PyData)}, RpA K F vs ds → prsOf ds = some ps →
    ∃ (as : List Addr) (ks : List (Key × V)), vs = as.map V.ref ∧ Paired (fun p kv => SqT K H p [kV kv.1, kv.2]) as ks ∧ Paired (fun kv p => kv.1 = p.1 ∧ Rp K F kv.2 p.2) ks ps
  | [], _, _, .nil, e => by cases e; exact ⟨[], [], rfl, .nil, .nil⟩
  | d :: ds, _, _, .cons r t, e => by
    obtain ⟨p, e1, e2⟩ := Option.bind_eq_some_iff.mp (show (prOf d).bind (fun p => (prsOf ds).bind fun ps => some (p :: ps)) = some _ from e)
    obtain ⟨ps, e3, e4⟩ := Option.bind_eq_some_iff.mp e2
    cases e4
    obtain ⟨as, ks, rfl, h1, h2⟩ := prs_ok sub t e3
    unfold prOf at e1
    split at e1
    · rename_i k v
      obtain ⟨k', e5, rfl⟩ := Option.map_eq_some_iff.mp e1
      cases keyOf_some e5
      cases r with
      | @tup a vs _ g1 g2 =>
        obtain ⟨x, y, rfl, g3, g4⟩ := g2.two
        cases (show x = kV k' by cases k' with | inl i => cases g3; rfl | inr z => cases g3; rfl)
        exact ⟨a :: as, (k', y) :: ks, rfl, .cons (Same.sqT sub g1.sq) h1, .cons ⟨rfl, g4⟩ h2⟩
    · cases e1
theorem cdd_dict (hcalm : X.calm = true) : CallDD X (.type "dict") dictL := (call_dictZ hcalm).imp fun xs H Q ⟨g, F, st, ds, r, b, rs, h, q⟩ => by
  unfold dictL at h
  split at h
  · obtain ⟨ps, e1, rfl⟩ := Option.map_eq_some_iff.mp h
    obtain ⟨v, rfl, r1⟩ := rs.one
    obtain ⟨a, vs, rfl, h2, h3⟩ := r1.list b.sub
    obtain ⟨as, ks, rfl, h4, h5⟩ := prs_ok b.sub h3 e1
    exact ⟨a, as, ks, rfl, .inl (SqL.of h2), h4, fun p hp => q p _ _ F (b.newH hp) hp upd_same (noneF b hp) (RpK.mergeP .nil h5)⟩
  · obtain ⟨ps, e1, rfl⟩ := Option.map_eq_some_iff.mp h
    obtain ⟨v, rfl, r1⟩ := rs.one
    obtain ⟨a, vs, rfl, h1, h2, h3⟩ := r1.tuple b.sub
    obtain ⟨as, ks, rfl, h4, h5⟩ := prs_ok b.sub h3 e1
    refine ⟨a, as, ks, rfl, .inr ?_, h4, fun p hp => q p _ _ F (b.newH hp) hp upd_same (noneF b hp) (RpK.mergeP .nil h5)⟩
    rcases h1 with ⟨o, h1, hn⟩ | h1
    · exact .inl ⟨o, b.sub _ _ h1, hn⟩
    · exact .inr h1
  · cases h

/-! ### sorted(d): keys that are numbers, few of them -/
def keysI (kvs : List (PyData × PyData)) : Option (List Int) := intsOf (kvs.map (·.1))
def sortedDL : List PyData → Option (List PyData)
  | [.dict kvs] => if kvs.length < 64 then (keysI kvs).map fun ns => (sortI ns).map .int else none
  | _ => none
theorem keysI_some {K : PySem.W.Frag} {F : Hp} : ∀ {kvs : List (PyData × PyData)} {ks : List (Key × V)} {ns : List Int}, RpK K F ks kvs → kvs.map (·.1) = ns.map PyData.int → ks.map (·.1) = ns.map Sum.inl
  | [], _, [], .nil, _ => rfl
  | [], _, _ :: _, .nil, e => by cases e
  | _ :: _, _, [], .cons _ _, e => by cases e
  | _ :: kvs, _, n :: ns, .cons (k := k) h t, e => by
    rw [List.map_cons, List.map_cons] at e
    injection e with e1 e2
    rw [List.map_cons, List.map_cons, keysI_some t e2]
    cases k with
    | inl i => cases e1; rfl
    | inr x => cases e1
theorem cf_sortedD (hcalm : X.calm = true) : CallF X (.builtin "sorted") sortedDL := (call_sortedDI hcalm).imp fun xs H Q ⟨g, F, st, ds, r, b, rs, h, q⟩ => by
  unfold sortedDL at h
  split at h
  · rename_i kvs
    split at h
    · rename_i hz
      obtain ⟨ns, e1, rfl⟩ := Option.map_eq_some_iff.mp h
      have e2 := intsOf_some (show intsOf (kvs.map (·.1)) = some ns from e1)
      obtain ⟨v, rfl, r1⟩ := rs.one
      obtain ⟨a, ks, rfl, h2, h3⟩ := r1.dict b.sub
      refine ⟨a, ks, ns, rfl, h2, keysI_some h3 e2, ?_, fun ys p h1 h2 hp => ?_⟩
      · have := congrArg List.length e2
        rw [List.length_map, List.length_map] at this
        omega
      · cases sortI_uniq h1 h2
        exact q p _ _ F (b.newH hp) hp upd_same (noneF b hp) (RpA.ints _)
    · cases h
  · cases h

/-! ### the keys of a dict walked -/
def keysL : PyData → Option (List PyData)
  | .dict kvs => some (kvs.map (·.1))
  | _ => none
def mKeys (m : Ev → M PyData) : Ev → M (List PyData) := fun ρ => do let d ← m ρ; lft (keysL d)
theorem RpK.get {K : PySem.W.Frag} {F : Hp} : ∀ {kvs : List (PyData × PyData)} {ks : List (Key × V)} {i : Nat} {d : PyData}, RpK K F ks kvs → (kvs.map (·.1))[i]? = some d → ∃ k v, ks[i]? = some (k, v) ∧ d = keyD k
  | [], _, i, d, _, e => by simp at e
  | _ :: kvs, _, 0, d, .cons (k := k) (v := v) r t, e => ⟨k, v, rfl, by simpa using e.symm⟩
  | _ :: kvs, _, i + 1, d, .cons r t, e => by
    obtain ⟨k, v, e1, e2⟩ := RpK.get (i := i) (d := d) t (by simpa using e)
    exact ⟨k, v, by simpa using e1, e2⟩
theorem rp_key {K : PySem.W.Frag} {F : Hp} (k : Key) : Rp K F (kV k) (keyD k) := by cases k <;> constructor
theorem si_keys {w : Bool} (h : SE X e m) : SI w X tg e (mKeys m) := fun g H0 F0 => (pi_keys (h g H0 F0)).imp fun σ H R ⟨ρ, F, st, ds, st', b, sl, e, q⟩ => by
  obtain ⟨d, st1, e1, e2⟩ := bnd e
  obtain ⟨e3, rfl⟩ := lfts e2
  refine ⟨ρ, F, st, d, st', b, sl, e1, fun v H' F' b' r => ?_⟩
  cases d with
  | dict kvs =>
    cases e3
    cases r with
    | @dic a od ks _ h1 h2 =>
      refine ⟨a, od, rfl, .inl ⟨ks, b'.sub _ _ h1, q _ H' F' b' fun i g2 H3 F3 H2 F2 st2 b2 p => ⟨fun x hx => ?_, fun hl => ⟨b2.sub _ _ (p _ _ h1), by rw [h2.length]; simpa using hl⟩⟩⟩⟩
      obtain ⟨k, v, g1, rfl⟩ := h2.get hx
      refine ⟨⟨b2.sub _ _ (p _ _ h1), (List.getElem?_eq_some_iff.mp g1).1⟩, fun y H4 ⟨eH, k', v', g3, ey⟩ => ?_⟩
      rw [g1] at g3
      cases g3
      subst eH ey
      exact ⟨F2, b2.base, .inl (rp_key k)⟩
  | none => cases e3
  | bool _ => cases e3
  | int _ => cases e3
  | str _ => cases e3
  | list _ => cases e3
  | tuple _ => cases e3
end
end DL
end

section
set_option Elab.async false
set_option linter.all false
set_option maxRecDepth 100000
set_option maxHeartbeats 4000000
/-! DL10: [::-1] of tuples and lists. -/
namespace PySem
open PySem.F PyProof.Rows
section
variable {prog : Program} {w : World} {A : Around} {E : Value → Shared → Prop} {s : Shared}
theorem dl_places (n : Nat) : Builtin.Slice.slicePlaces ((n : Int) - 1) (-1) (-1) = n := by
  unfold Builtin.Slice.slicePlaces
  rw [if_neg (by decide)]
  by_cases h : (n : Int) - 1 > -1
  · rw [if_pos h]
    have e : ((n : Int) - 1 - -1 - 1) / (- -1) + 1 = n := by
      rw [show (- -1 : Int) = 1 by decide, Int.ediv_one]; omega
    rw [e]; rfl
  · rw [if_neg h]; omega
theorem dl_fm {α β : Type} {f g : α → Option β} : ∀ {l : List α}, (∀ x ∈ l, f x = g x) → l.filterMap f = l.filterMap g
  | [], _ => rfl
  | x :: l, h => by rw [List.filterMap_cons, List.filterMap_cons, h x List.mem_cons_self, dl_fm fun y hy => h y (List.mem_cons_of_mem _ hy)]
theorem dl_pick (xs : Array Value) : ((List.range xs.size).filterMap fun (k : Nat) => xs[((xs.size : Int) - 1 + (k : Int) * (-1)).toNat]?) = xs.toList.reverse := by
  have e : (List.range xs.size).filterMap (fun (k : Nat) => xs[((xs.size : Int) - 1 + (k : Int) * (-1)).toNat]?) = ((List.range xs.size).map fun k => xs.size - 1 - k).filterMap (xs[·]?) := by
    rw [List.filterMap_map]
    refine dl_fm fun k hk => ?_
    have := List.mem_range.mp hk
    show xs[((xs.size : Int) - 1 + (k : Int) * (-1)).toNat]? = xs[xs.size - 1 - k]?
    rw [show ((xs.size : Int) - 1 + (k : Int) * (-1)).toNat = xs.size - 1 - k by omega]
  rw [e, PySem.W.krv_range, List.filterMap_reverse, PySem.W.krv_all]
theorem dl_revApplied {sl : Addr} {vl vu vs : Value} {n : Nat} {Q : Int × Int × Nat → Shared → Prop} (hs : s.heap.IsSliceOf sl vl vu vs) (pl : IsPart vl none) (pu : IsPart vu none) (ps : IsPart vs (some (-1)))
    (h : Q ((n : Int) - 1, -1, n) s) : wpAny (model prog w) A (Builtin.Slice.sliceApplied (.ref sl) (pure (n : Int))) Q E s := by
  obtain ⟨os, hos, hcs, hds⟩ := id hs
  unfold Builtin.Slice.sliceApplied Builtin.Slice.sliceFields
  refine wpAny_bind (wpAny_bind (wpAny_field hos hds (x := vl) rfl (wpAny_bind (wpAny_field hos hds (x := vu) rfl (wpAny_bind (wpAny_field hos hds (x := vs) rfl (wpAny_pure ?_)))))))
  refine wpAny_bind (HT.slicePart_ ps ?_)
  show wpAny _ _ (if ((-1 : Int) == 0) = true then _ else _) _ _ s
  rw [if_neg (by decide)]
  refine wpAny_bind (HT.slicePart_ pl (wpAny_bind (HT.slicePart_ pu (wpAny_bind (wpAny_pure ?_)))))
  show wpAny _ _ (pure ((n : Int) - 1, (-1 : Int), Builtin.Slice.slicePlaces ((n : Int) - 1) (-1) (-1))) _ _ s
  rw [dl_places]
  exact wpAny_pure h
theorem dl_getItem_tuple_rev {t sl : Addr} {items : Array Value} {vl vu vs : Value} {Q : Value → Shared → Prop} (ht : IsTup s.heap t items) (hs : s.heap.IsSliceOf sl vl vu vs) (pl : IsPart vl none) (pu : IsPart vu none) (ps : IsPart vs (some (-1)))
    (h : Q (.ref s.heap.objs.size) { s with heap := s.heap.push { cls := .type "tuple", data := .seq items.toList.reverse.toArray } })
    (hsz : items.size ≤ sizeLine) : wpAny (model prog w) A (getItem (.ref t) (.ref sl)) Q E s := by
  have htake : sizeOk (.seq items.toList.reverse.toArray) := by
    show items.toList.reverse.toArray.size ≤ sizeLine
    rw [List.size_toArray, List.length_reverse, Array.length_toList]; exact hsz
  obtain ⟨os, hos, hcs, hds⟩ := id hs
  have hTs : s.TypeIs (.ref sl) "slice" := ⟨os, hos, hcs⟩
  unfold getItem
  try with_reducible refine wpAny_holding ?_
  first | refine wpAny_bind (wpAny_pure ?_) | skip
  refine wpAny_bind (wpAny_sequenceKey ht.typeIs (by decide) ?_)
  refine wpAny_bind (wpAny_callSpecial?_slot (name := Str.ofString "__getitem__") ht.typeIs PyProof.Rows.slot_tuple_getitem
    (wpAny_call_entry PyProof.Rows.slot_tuple_getitem ht.typeIs PyProof.Rows.entry_tuple_getitem ?_ (PyProof.Rows.args_tuple_getitem _ _)))
  show wpAny _ _ (Builtin.Tuple.tupleItemsOf (.ref t) >>= _) _ _ s
  refine wpAny_bind (PyProof.Rows.tupleItemsOf_ ht ?_)
  refine wpAny_bind (wpAny_typeOf hTs ?_)
  rw [if_pos (by decide)]
  refine wpAny_bind (dl_revApplied hs pl pu ps ?_)
  show wpAny _ _ (if ((((items.size : Int) - 1) == 0 && (-1 : Int) == 1 && items.size == items.size) = true) then _ else _) _ _ s
  rw [if_neg (by simp), dl_pick]
  first
    | exact wpAny_bind (m := Builtin.Tuple.tupleExact _) (wpAny_newObj_type (wpAny_pure ⟨_, rfl, wpAny_pure h⟩) htake)
    | exact wpAny_bind (m := Builtin.Tuple.tupleExact _) (wpAny_newObj_type (wpAny_bind (wpAny_pure (wpAny_pure ⟨_, rfl, wpAny_pure h⟩))) htake)
    | exact wpAny_bind (wpAny_bind (m := Builtin.Tuple.tupleExact _) (wpAny_newObj_type (wpAny_pure (wpAny_pure ⟨_, rfl, wpAny_pure h⟩)) htake))
    | exact wpAny_bind (wpAny_bind (m := Builtin.Tuple.tupleExact _) (wpAny_newObj_type (wpAny_pure ⟨_, rfl, wpAny_pure h⟩) htake))
end
end PySem
namespace DL
open PySem PySem.Spec PyProof.Rows L2
section
variable {X : Cx} {e a b c tg : Expr} {es : List Expr} {m ma mb mc : Ev → M PyData} {pos : Pos}
def tRevT (K : PySem.W.Frag) (te : TE) : TE := fun σ H Q => te σ H fun x H1 => ∃ a xs, x = .ref a ∧ ((SqL K H1 a xs ∧ ∀ p, H1 p = none → Q (.ref p) (upd H1 p (.lst xs.reverse))) ∨ (SqT K H1 a xs ∧ ∀ p o, H1 p = none → o.dict = none → Q (.ref p) (upd H1 p (.frz o (.tup xs.reverse)))))
theorem pe_revZ {te : TE} {k : Nat} {p1 p2 p3 : Pos} (he : PE X e te) : PE X (.Subscript e (.Slice none none (some (.UnaryOp .USub (.Constant (.int 1) k p1) p2)) p3) pos) (tRevT X.K te) := by
  refine ⟨fun pins s σ H Q I h => ?_⟩
  refine Subscript_ (thn (he.run pins s σ H _ I h) fun v s1 ⟨x, H1, I1, r1, q1⟩ => ?_)
  obtain ⟨a, xs, ex, q⟩ := q1
  subst ex
  cases r1
  have hst : PO X (some (.UnaryOp .USub (.Constant (.int 1) k p1) p2)) (tPart (tUn (rU fun i => .int (-i)) (tC (.int 1)))) := po_some (pe_un un_neg pe_int)
  refine wpAny_Slice (thn (po_none.run pins s1 σ H1 (fun o H2 => o = none ∧ H2 = H1) I1 ⟨rfl, rfl⟩) fun vl s2 ⟨l, H2, I2, pl, el, e2⟩ => ?_)
  subst el e2
  refine thn (po_none.run pins s2 σ H2 (fun o H3 => o = none ∧ H3 = H2) I2 ⟨rfl, rfl⟩) fun vu s3 ⟨u, H3, I3, pu, eu, e3⟩ => ?_
  subst eu e3
  refine thn (hst.run pins s3 σ H3 (fun o H4 => o = some (-1) ∧ H4 = H3) I3 ⟨1, rfl, -1, rfl, rfl, rfl⟩) fun vs s4 ⟨o, H4, I4, ps, eo, e4⟩ => ?_
  subst eo e4
  have I5 : Inv X pins σ H4 { s4 with heap := s4.heap.push { cls := .type "slice", data := .fields #[vl, vu, vs] } } := I4.kept (t' := s4.toks) fun b ob q => Heap.get?_push_of_some _ q
  show wpAny (model X.prog X.w) X.A (subscriptTail e (.Slice none none (some (.UnaryOp .USub (.Constant (.int 1) k p1) p2)) p3) (.ref a) (.ref s4.heap.objs.size)) (EP X pins σ Q) X.xe { s4 with heap := s4.heap.push { cls := .type "slice", data := .fields #[vl, vu, vs] } }
  rcases q with ⟨hx, q⟩ | ⟨hx, q⟩
  · obtain ⟨its, r, ht, hz⟩ := I5.list hx
    have hlen := r.length
    refine tail_any (ops := [.ref a, .ref s4.heap.objs.size]) ht.isList.typeIs (PySem.slot_list_getitem.lookup) ?_ (by with_unfolding_all rfl)
    refine wpAny_getItem_list_slice ht.isList (Heap.IsSliceOf.new _ vl vu vs) pl pu ps (by decide) ?_ (by rw [List.size_toArray]; omega)
    rw [PySem.W.krv_pick]
    refine ⟨.ref _, _, I5.laid (t' := s4.toks) (o := .lst xs.reverse) (fun b ob q => Heap.get?_push_of_some _ q) (Nat.le_refl _) ?_, rfl, q _ (I5.hok.fresh (Nat.le_refl _))⟩
    exact ⟨by rw [List.length_reverse]; exact hz, _, 0, r.reverse, Heap.get?_push_size _ rfl⟩
  · obtain ⟨its, r, ht, hz⟩ := I5.tuple hx
    have hlen := r.length
    refine tail_any (ops := [.ref a, .ref s4.heap.objs.size]) ht.typeIs (PyProof.Rows.slot_tuple_getitem.lookup) ?_ (by with_unfolding_all rfl)
    refine dl_getItem_tuple_rev ht (Heap.IsSliceOf.new _ vl vu vs) pl pu ps ?_ (by rw [List.size_toArray]; omega)
    exact ⟨.ref _, _, I5.laid (t' := s4.toks) (o := .frz _ (.tup xs.reverse)) (fun b ob q => Heap.get?_push_of_some _ q) (Nat.le_refl _)
      ⟨Heap.get?_push_size _ rfl, by rw [List.length_reverse]; exact hz, _, r.reverse, IsTup.new _ _⟩, rfl, q _ _ (I5.hok.fresh (Nat.le_refl _)) rfl⟩
def revD : PyData → Option PyData
  | .list ds => some (.list ds.reverse)
  | .tuple ds => some (.tuple ds.reverse)
  | _ => none
def revL : PyData → Option (List PyData)
  | .list ds => some ds.reverse
  | _ => none
def mUn' {α : Type} (φ : PyData → Option α) (m : Ev → M PyData) : Ev → M α := fun ρ => do let d ← m ρ; lft (φ d)
theorem se_rev {k : Nat} {p1 p2 p3 : Pos} (he : SB X e m) : SE X (.Subscript e (.Slice none none (some (.UnaryOp .USub (.Constant (.int 1) k p1) p2)) p3) pos) (mUn' revD m) := fun g H0 F0 =>
  (pe_revZ (he g H0 F0)).imp fun σ H Q ⟨ρ, F, st, d, st', b, s, e, q⟩ => by
    obtain ⟨x, st1, e1, f1⟩ := bnd e
    obtain ⟨e3, rfl⟩ := lfts f1
    refine ⟨ρ, F, st, x, st', b, s, e1, fun v H2 F2 b2 r1 => ?_⟩
    cases x <;> first | cases e3 | skip
    · obtain ⟨a, vs, rfl, h, ra⟩ := r1.list b2.sub
      exact ⟨a, vs, rfl, .inl ⟨SqL.of h, fun p hp => let ⟨b3, r3⟩ := b2.lstNew hp ra.reverse; q _ _ _ b3 r3⟩⟩
    · obtain ⟨a, vs, rfl, h1, h2, ra⟩ := r1.tuple b2.sub
      exact ⟨a, vs, rfl, .inr ⟨h2, fun p o hp ho => let ⟨b3, r3⟩ := b2.tupNew hp ho ra.reverse; q _ _ _ b3 r3⟩⟩
theorem sf_rev {k : Nat} {p1 p2 p3 : Pos} (he : SB X e m) : SF X (.Subscript e (.Slice none none (some (.UnaryOp .USub (.Constant (.int 1) k p1) p2)) p3) pos) (mUn' revL m) := fun g H0 F0 =>
  (pe_revZ (he g H0 F0)).imp fun σ H Q ⟨ρ, F, st, d, st', b, s, e, q⟩ => by
    obtain ⟨x, st1, e1, f1⟩ := bnd e
    obtain ⟨e3, rfl⟩ := lfts f1
    refine ⟨ρ, F, st, x, st', b, s, e1, fun v H2 F2 b2 r1 => ?_⟩
    cases x <;> first | cases e3 | skip
    obtain ⟨a, vs, rfl, h, ra⟩ := r1.list b2.sub
    exact ⟨a, vs, rfl, .inl ⟨SqL.of h, fun p hp => q p _ _ F2 (b2.newH hp) (none_of b2 hp) upd_same (noneF b2 hp) ra.reverse⟩⟩
end
end DL
end

section
set_option Elab.async false
set_option linter.all false
set_option maxRecDepth 100000
set_option maxHeartbeats 4000000
/-! DL11: the pick source read and changed. -/
namespace DL
open PySem PySem.Spec PyProof.Rows L2
section
variable {g : Gh} {H0 F0 H F : Hp} {st : Pk}
theorem Bs.src (b : Bs g H0 F0 H F st) {st' : Pk} {H' : Hp} (sa : H' g.a = some (.dK (srcKv g st'))) (sl : H' g.l = some (.lst (st'.cells.map V.int))) (ok : st'.ok) (k : ∀ c, c ≠ g.a → c ≠ g.l → H' c = H c) : Bs g H0 F0 H' F st' where
  sub := fun c u h => by
    rw [k c (fun z => by rw [z, b.na] at h; cases h) (fun z => by rw [z, b.nl] at h; cases h)]; exact b.sub c u h
  sa := sa
  sl := sl
  na := b.na
  nl := b.nl
  ne := b.ne
  ok := ok
  stp := ⟨b.stp.fr, b.stp.nw, fun c u h n1 n2 => by rw [k c n1 n2]; exact b.stp.kp c u h n1 n2, fun c h => by
    by_cases h1 : c = g.a
    · rw [h1, sa] at h; cases h
    · by_cases h2 : c = g.l
      · rw [h2, sl] at h; cases h
      · rw [k c h1 h2] at h; exact b.stp.gr c h⟩
end
section
variable {X : Cx} {e a b c tg : Expr} {es : List Expr} {m ma mb mc : Ev → M PyData} {pos : Pos}
def getS : M Pk := fun st => some (st, st)
def srcVal (k : Str) (st : Pk) : Option Int :=
  if k = "left" then some st.left else if k = "mixed" then some st.mixed else if k = "turn" then some st.turn else none
theorem srcVal_some {g : Gh} {k : Str} {st : Pk} {i : Int} (h : srcVal k st = some i) : valV (srcKv g st) (.inr k) = some (.int i) := by
  unfold srcVal at h
  split at h
  · cases h; subst k; rfl
  · split at h
    · cases h; subst k; rfl
    · split at h
      · cases h; subst k; rfl
      · cases h
def mSrcGet (i : Nat) (k : Str) : Ev → M PyData := fun ρ => do let _ ← lft (srcAt ρ i); let st ← getS; let v ← lft (srcVal k st); pure (.int v)
theorem getSs {st st' st2 : Pk} (h : getS st = some (st', st2)) : st' = st ∧ st2 = st := by cases h; exact ⟨rfl, rfl⟩
theorem se_srcGet {i : Nat} {x k : Str} {xp p2 : Pos} {j : Nat} (hu : X.A.units + 1 < cLine) (hv : PE X (.Name x xp) (tVar i)) : SE X (.Subscript (.Name x xp) (.Constant (.str k) j p2) pos) (mSrcGet i k) := fun g H0 F0 =>
  (pe_dget hu hv pe_str (by intro _ _; rfl)).imp fun σ H Q ⟨ρ, F, st, d, st', b, s, e, q⟩ => by
    obtain ⟨u, st1, e1, f1⟩ := bnd e
    obtain ⟨e1', h1⟩ := lfts e1
    obtain ⟨z, st2, e2, f2⟩ := bnd f1
    obtain ⟨h2, h3⟩ := getSs e2
    obtain ⟨v, st3, e3, f3⟩ := bnd f2
    obtain ⟨e3', h4⟩ := lfts e3
    obtain ⟨rfl, h5⟩ := purs f3
    subst h1 h2 h3 h4 h5
    obtain ⟨y, hσ, hy⟩ := s.get (srcAt_some e1')
    cases (show y = some (.ref g.a) from hy)
    exact ⟨_, hσ, g.a, .int v, rfl, .inl ⟨_, .inr k, .inl b.sa, rfl, (srcVal_some e3').symm⟩, q _ H F b.base (.int v)⟩

/-! source[k] = v -/
def srcPut (k : Str) (i : Int) (st : Pk) : Option Pk :=
  if k = "left" then (if 0 ≤ i then some { st with left := i } else none) else if k = "mixed" then some { st with mixed := i } else if k = "turn" then some { st with turn := i } else none
def putS (st : Pk) : M Unit := fun _ => some ((), st)
def mSrcPut (i : Nat) (k : Str) (m : Ev → M PyData) : Ev → M Fl := fun ρ => do
  let d ← m ρ; let _ ← lft (srcAt ρ i); let v ← lft (asI d); let st ← getS; let st' ← lft (srcPut k v st); let _ ← putS st'; pure (.nx ρ)
theorem srcPut_some {g : Gh} {k : Str} {st st' : Pk} {i : Int} (h : srcPut k i st = some st') (ok : st.ok) : putK (srcKv g st) (.inr k) (.int i) = srcKv g st' ∧ st'.ok ∧ st'.cells = st.cells := by
  unfold srcPut at h
  split at h
  · split at h
    · rename_i h0
      cases h; subst k; exact ⟨rfl, ⟨ok.cells, ok.len, h0⟩, rfl⟩
    · cases h
  · split at h
    · cases h; subst k; exact ⟨rfl, ⟨ok.cells, ok.len, ok.left⟩, rfl⟩
    · split at h
      · cases h; subst k; exact ⟨rfl, ⟨ok.cells, ok.len, ok.left⟩, rfl⟩
      · cases h
theorem ss_srcPut {i : Nat} {x k : Str} {xp p2 tpos : Pos} {j : Nat} (hu : X.A.units + 1 < cLine) (hv : PE X (.Name x xp) (tVar i)) (he : SE X e m) (hs : swapsWith e (some (.Subscript (.Name x xp) (.Constant (.str k) j p2) tpos)) pos.line X.env = pure false := by rfl) :
    SS X (.Assign [.Subscript (.Name x xp) (.Constant (.str k) j p2) tpos] e pos) (mSrcPut i k m) := fun g H0 F0 => (ps_dput hu hv pe_str (he g H0 F0) hs).imp fun D σ H ⟨ρ, F, st, fl, st', b, sl, e, q⟩ => by
  obtain ⟨d, st1, e1, f1⟩ := bnd e
  obtain ⟨u, st2, e2, f2⟩ := bnd f1
  obtain ⟨e2', h2⟩ := lfts e2
  obtain ⟨v, st3, e3, f3⟩ := bnd f2
  obtain ⟨e3', h3⟩ := lfts e3
  obtain ⟨z, st4, e4, f4⟩ := bnd f3
  obtain ⟨h4, h5⟩ := getSs e4
  obtain ⟨z2, st5, e5, f5⟩ := bnd f4
  obtain ⟨e5', h6⟩ := lfts e5
  obtain ⟨w, st6, e6, f6⟩ := bnd f5
  cases e6
  obtain ⟨rfl, h7⟩ := purs f6
  subst h2 h3 h4 h5 h6 h7
  cases asI_some e3'
  refine ⟨ρ, F, st, _, _, b, sl, e1, fun v' H1 F1 b1 r1 => ?_⟩
  cases r1
  obtain ⟨y, hσ, hy⟩ := (sl.step b1.stp).get (srcAt_some e2')
  cases (show y = some (.ref g.a) from hy)
  obtain ⟨p1, p2, p3⟩ := srcPut_some (g := g) e5' b1.ok
  refine ⟨_, hσ, g.a, upd H1 g.a (.dK (putK (srcKv g _) (.inr k) (.int v))), rfl, .inl ⟨_, .inr k, b1.sa, rfl, ?_, rfl⟩, ?_⟩
  · show (4 : Nat) < sizeLine
    decide
  · have b2 := (b.trans b1).src (st' := st') (H' := upd H1 g.a (.dK (putK (srcKv g st5) (.inr k) (.int v)))) (by rw [upd_same, p1]) (by rw [upd_ne (Ne.symm b.ne), p3]; exact b1.sl) p2 (fun c n1 n2 => upd_ne n1)
    have s2 : Stp g H F (upd H1 g.a (.dK (putK (srcKv g st5) (.inr k) (.int v)))) F1 := (b1.src (st' := st') (H' := upd H1 g.a (.dK (putK (srcKv g st5) (.inr k) (.int v)))) (by rw [upd_same, p1]) (by rw [upd_ne (Ne.symm b.ne), p3]; exact b1.sl) p2 (fun c n1 n2 => upd_ne n1)).stp
    exact q σ _ F1 b2 s2.fr (sl.step s2)

/-! cells = source['cells']; len(cells); cells.pop() -/
def mSrcCells (i j : Nat) : Ev → M Fl := fun ρ => do let _ ← lft (srcAt ρ i); pure (.nx (ρ.set j .scl))
theorem ss_srcCells {i j : Nat} {x y : Str} {xp p2 pos' epos : Pos} {jc : Nat} (hu : X.A.units + 1 < cLine) (hN : X.N.Nodup) (hv : PE X (.Name x xp) (tVar i)) (hi : X.N[j]? = some y := by rfl) (hx : Loc X.env.scope y := by first | exact Or.inl rfl | exact Or.inr rfl) (hs : swapsWith (.Subscript (.Name x xp) (.Constant (.str "cells") jc p2) epos) (some (.Name y pos')) pos.line X.env = pure false := by rfl)
    (hf : X.fn y = true ∨ X.env.scope.names.lookup y = some .local := by first | exact .inl rfl | exact .inr rfl) : SS X (.Assign [.Name y pos'] (.Subscript (.Name x xp) (.Constant (.str "cells") jc p2) epos) pos) (mSrcCells i j) := fun g H0 F0 =>
  (ps_set hN hi hx (pe_dget hu hv pe_str (by intro _ _; rfl)) hs hf).imp fun D σ H ⟨ρ, F, st, fl, st', b, sl, e, q⟩ => by
  obtain ⟨u, st1, e1, f1⟩ := bnd e
  obtain ⟨e1', h1⟩ := lfts e1
  obtain ⟨rfl, h5⟩ := purs f1
  subst h1 h5
  obtain ⟨y', hσ, hy⟩ := sl.get (srcAt_some e1')
  cases (show y' = some (.ref g.a) from hy)
  exact ⟨_, hσ, g.a, .ref g.l, rfl, .inl ⟨_, .inr "cells", .inl b.sa, rfl, rfl⟩, q _ H F b (.refl _) (sl.put (s := .scl) rfl rfl)⟩
def sclAt (ρ : Ev) (i : Nat) : Option Unit := match ρ[i]? with
  | some .scl => some ()
  | _ => none
theorem sclAt_some {ρ : Ev} {i : Nat} {u : Unit} (h : sclAt ρ i = some u) : ρ[i]? = some .scl := by
  unfold sclAt at h
  cases z : ρ[i]? with
  | none => rw [z] at h; cases h
  | some s => rw [z] at h; cases s <;> first | rfl | cases h
def mLenC (i : Nat) : Ev → M PyData := fun ρ => do let _ ← lft (sclAt ρ i); let st ← getS; pure (.int st.cells.length)
theorem se_lenC {i : Nat} {y : Str} {yp p : Pos} (hm : X.mg "len" = none) (hv : PE X (.Name y yp) (tVar i)) (hg : Gl X "len" := by rfl) (he : starEach [.Name y yp] X.env = (false, eval (.Name y yp) X.env) :: starEach [] X.env := by rfl) (hpl : (backTo pos (starEach [] X.env)).any (·.1) = false := by rfl) :
    SE X (.Call (.Name "len" p) [.Name y yp] [] pos) (mLenC i) := fun g H0 F0 =>
  (pe_callB call_len_seq hg hm (by decide +kernel) (pa_cons hv pa_nil he) (by decide) (by decide) he hpl).imp fun σ H Q ⟨ρ, F, st, d, st', b, s, e, q⟩ => by
    obtain ⟨u, st1, e1, f1⟩ := bnd e
    obtain ⟨e1', h1⟩ := lfts e1
    obtain ⟨z, st2, e2, f2⟩ := bnd f1
    obtain ⟨h2, h3⟩ := getSs e2
    obtain ⟨rfl, h5⟩ := purs f2
    subst h1 h2 h3 h5
    obtain ⟨y', hσ, hy⟩ := s.get (sclAt_some e1')
    cases (show y' = some (.ref g.l) from hy)
    have q' := q _ H F b.base (.int _)
    exact ⟨_, hσ, g.l, _, rfl, .inl (SqL.of b.sl), by rw [List.length_map]; exact q'⟩
def popD (st : Pk) : Option (Int × Pk) := match st.cells.getLast? with
  | some c => some (c, { st with cells := st.cells.dropLast })
  | none => none
def popS : M Int := fun st => popD st
def mPopC (i : Nat) : Ev → M PyData := fun ρ => do let _ ← lft (sclAt ρ i); let c ← popS; pure (.int c)
theorem se_popC {i : Nat} {y : Str} {yp apos cpos : Pos} (hv : PE X (.Name y yp) (tVar i)) (hbase : attributeBase (.Name y yp) "pop" X.env (eval (.Name y yp) X.env) = eval (.Name y yp) X.env := by rfl) (hline : (apos.endLine == cpos.line) = true := by rfl) :
    SE X (.Call (.Attribute (.Name y yp) "pop" apos) [] [] cpos) (mPopC i) := fun g H0 F0 =>
  (pe_bm0 PySem.F.plainAttrs_list PySem.F.slot_list_pop PySem.F.type_list_pop mt_pop hv hbase hline).imp fun σ H Q ⟨ρ, F, st, d, st', b, s, e, q⟩ => by
    obtain ⟨u, st1, e1, f1⟩ := bnd e
    obtain ⟨e1', h1⟩ := lfts e1
    obtain ⟨c, st2, e2, f2⟩ := bnd f1
    obtain ⟨rfl, h5⟩ := purs f2
    subst h1 h5
    have e2' : popD st1 = some (c, st') := e2
    unfold popD at e2'
    split at e2'
    · rename_i c' hc
      cases e2'
      obtain ⟨y', hσ, hy⟩ := s.get (sclAt_some e1')
      cases (show y' = some (.ref g.l) from hy)
      have hl : (st1.cells.map V.int)[(st1.cells.map V.int).length - 1]? = some (.int c) := by
        rw [List.length_map, List.getElem?_map]
        rw [List.getLast?_eq_getElem?] at hc
        rw [hc]; rfl
      refine ⟨_, hσ, .inl ⟨rfl, _, SqL.of b.sl⟩, g.l, _, _, rfl, rfl, b.sl, hl, ?_⟩
      have ok' : ({ st1 with cells := st1.cells.dropLast } : Pk).ok := ⟨fun z hz => b.ok.cells z (List.dropLast_subset _ hz), by show st1.cells.dropLast.length ≤ 63; rw [List.length_dropLast]; have := b.ok.len; omega, b.ok.left⟩
      exact q _ _ F (b.base.src (st' := { st1 with cells := st1.cells.dropLast }) (by rw [upd_ne b.ne]; exact b.sa) (by rw [upd_same, List.map_dropLast]) ok' (fun c _ n2 => upd_ne n2)) (.int c)
    · cases e2'
end
end DL
end

section
set_option Elab.async false
set_option linter.all false
set_option maxRecDepth 100000
set_option maxHeartbeats 4000000
/-! DL12: defs that may be called by their names; short forms that a program prints. -/
namespace DL
open PySem PySem.Spec PyProof.Rows L2
theorem Gd.blk {X : Cx} {k : Nat} (G : Gd X k) {s : Shared} {H : Hp} {scope : Scope} {cenv : Env} {fp : List Addr} : Gd (X.blk s H scope cenv fp) k := ⟨G.calm, G.nd, G.gu, G.room⟩
theorem Gd.u {X : Cx} {k : Nat} (G : Gd X k) : X.A.units + 64 < cLine := G.room.units
theorem Gd.u1 {X : Cx} {k : Nat} (G : Gd X k) : X.A.units + 1 < cLine := hu_of G.room
theorem blk_c (N : List Str) (sc : Scope) {scope : Scope} {own : List (Str × Nat)} (h1 : scope.kind = .function) (h2 : ∀ y ∈ scope.names, scope.names.lookup y.1 = some y.2) (h3 : ∀ p ∈ own, N[p.2]? = some p.1) (h4 : ∀ y ∈ scope.names, y.2 = .free → sc.names.lookup y.1 = some .cell ∨ sc.names.lookup y.1 = some .free)
    (h5 : ∀ y ∈ scope.names, y.2 = .local ∨ y.2 = .cell → y.1 ∈ own.map (·.1) ∨ y.1 ∉ N) : BlkOk N sc scope own := ⟨h1, h2, h3, h4, h5⟩
/-- a def that may be called by its name -/
structure Def (P : Program) (w : World) (K : PySem.W.Frag) (mg : Str → Option Value) (base : Heap) (k : Nat) (x : Str) (ps : List Str) (b : Bool) (mf : List PyData → M PyData) : Prop where
  ex : ∃ (f : Addr) (fd : FuncData), FnM P w K mg base k f fd ps b mf ∧ mg x = some (.ref f) ∧ PySem.W.keepIn K (.ref f) = true ∧ Binds K fd ps []
theorem Def.mono {P : Program} {w : World} {K : PySem.W.Frag} {mg : Str → Option Value} {base : Heap} {j k : Nat} {x : Str} {ps : List Str} {b : Bool} {mf : List PyData → M PyData} (D : Def P w K mg base j x ps b mf) (h : j ≤ k) : Def P w K mg base k x ps b mf :=
  let ⟨f, fd, F, r⟩ := D.ex; ⟨f, fd, F.mono h, r⟩
section
variable {X : Cx} {k : Nat} {ps : List Str} {x : Str} {p pos : Pos} {e a b c : Expr} {es : List Expr} {m ma mb mc : Ev → M PyData} {mf : List PyData → M PyData} {ms : Ev → M (List PyData)}
theorem se_callD (G : Gd X k) (D : Def X.prog X.w X.K X.mg X.base k x ps false mf) (ha : SA X (e :: es) ms) (hg : Gl X x := by rfl) (hdb : (x == ("__debug__" : Str)) = false := by decide)
    (he : starEach (e :: es) X.env = (false, eval e X.env) :: starEach es X.env := by rfl) (hpl : (backTo pos (starEach es X.env)).any (·.1) = false := by rfl) : SE X (.Call (.Name x p) (e :: es) [] pos) (mCall ps.length mf ms) :=
  let ⟨_, _, F, hm, hk, hb⟩ := D.ex; se_call F G.room G.gu hm hk hb ha hg hdb he hpl
theorem se_callD0 (G : Gd X k) (D : Def X.prog X.w X.K X.mg X.base k x [] false mf) (hg : Gl X x := by rfl) (hdb : (x == ("__debug__" : Str)) = false := by decide) : SE X (.Call (.Name x p) [] [] pos) (mCall 0 mf mNil) :=
  let ⟨_, _, F, hm, hk, hb⟩ := D.ex; se_call0 F G.room G.gu hm hk hb hg hdb
theorem se_callDS {n i : Nat} {y : Str} {yp : Pos} (G : Gd X k) (D : Def X.prog X.w X.K X.mg X.base k x ps true mf) (hs : PE X (.Name y yp) (tVar i)) (ha : SA X es ms) (hn : ps.length = n + 1 := by rfl) (hg : Gl X x := by rfl) (hdb : (x == ("__debug__" : Str)) = false := by decide)
    (he0 : starEach (.Name y yp :: es) X.env = (false, eval (.Name y yp) X.env) :: starEach es X.env := by rfl) (hpl : (backTo pos (starEach es X.env)).any (·.1) = false := by rfl) : SE X (.Call (.Name x p) (.Name y yp :: es) [] pos) (mCallS n i mf ms) :=
  let ⟨_, _, F, hm, hk, hb⟩ := D.ex; se_callS F G.room G.gu hm hk hb hs ha hn hg hdb he0 hpl
/-- a constant of the module that is data -/
theorem se_globD {v : Value} {d : PyData} (hm : X.mg x = some v) (hv : ∃ u, RelV u v ∧ ∀ F, Rp X.K F u d) (hg : Gl X x := by rfl) (hd : (x == ("__debug__" : Str)) = false := by decide) : SE X (.Name x pos) (mC d) :=
  let ⟨_, h1, h2⟩ := hv; se_of (pe_glob hg hm h1 hd) h2
theorem st_din (hu : X.A.units + 1 < cLine) (ha : SB X a ma) (hb : SB X b mb) (hm : behindInMarks .In b = false := by rfl) : STs X (.Compare a [.In] [b] pos) (mAsB (mOp inD ma mb)) := fun g H0 F0 => (pt_cmp (pc_din hu (ha g H0 F0) (hb g H0 F0)) hm).imp fun σ H Q ⟨ρ, F, st, k, st', b, s, e, q⟩ => by
  obtain ⟨d, st1, e1, f1⟩ := bnd e
  obtain ⟨e2, rfl⟩ := lfts f1
  cases asB_some e2
  refine two b s e1 fun x y v w H2 F2 e3 b2 r1 r2 => ?_
  obtain ⟨kvs, k', rfl, rfl, e4⟩ := inD_some e3
  cases e4
  cases key_v r1
  obtain ⟨a, ks, rfl, h, rk⟩ := r2.dict b2.sub
  refine ⟨a, _, rfl, (show DGet _ _ _ _ from .inl ⟨_, _, h, rfl, rfl⟩), _, rfl, ?_⟩
  rcases rk.look k' with ⟨z1, z2⟩ | ⟨v, d', z1, z2, rz⟩
  · rw [z1]; rw [z2] at q; exact q H2 F2 b2
  · rw [z1]; rw [z2] at q; exact q H2 F2 b2
end
end DL
end

section
set_option Elab.async false
set_option linter.all false
set_option maxRecDepth 100000
set_option maxHeartbeats 4000000
/-! DL13: the source opened; the law at the top. -/
namespace DL
open PySem PySem.Spec PyProof.Rows L2
def stirI : List Int → Int → Int
  | [], s => s
  | c :: cs, s => stirI cs ((s * 69069 + c * 31 + 5) % 2147483629)
def iabs (i : Int) : Int := if i < 0 then -i else i
def openS (ns : List Int) : Pk := ⟨(ns.map iabs).reverse, 1, stirI ns 11, 0⟩
theorem openS_ok {ns : List Int} (h : ns.length ≤ 63) : (openS ns).ok := ⟨fun c hc => by
  obtain ⟨x, _, rfl⟩ := List.mem_map.mp (List.mem_reverse.mp hc)
  unfold iabs
  split <;> omega, by show (ns.map iabs).reverse.length ≤ 63; simpa using h, by show (0 : Int) ≤ 1; decide⟩
theorem stirI_snoc (s : Int) : ∀ (ns : List Int) (i : Nat) (x : Int), ns[i]? = some x → stirI (ns.take (i + 1)) s = (stirI (ns.take i) s * 69069 + x * 31 + 5) % 2147483629
  | [], i, x, h => by simp at h
  | n :: ns, 0, x, h => by
    cases (show some n = some x from h)
    simp [stirI]
  | n :: ns, i + 1, x, h => by
    rw [List.take_succ_cons, List.take_succ_cons]
    exact stirI_snoc _ ns i x (by simpa using h)
/-- a source laid new -/
def spOpen (K : PySem.W.Frag) : List V → Hp → VK → Prop := fun vs H Q => ∃ (a : Addr) (ns : List Int), vs = [.ref a] ∧ SqL K H a (ns.map V.int) ∧ ns.length ≤ 63 ∧
  ∀ (H' : Hp) (g : Gh), Same H H' → g.a ≠ g.l → H g.a = none → H g.l = none → H' g.a = some (.dK (srcKv g (openS ns))) → H' g.l = some (.lst ((openS ns).cells.map V.int)) → Q (.ref g.a) H'
/-- what the law is called with -/
def spLaw (K : PySem.W.Frag) : List V → Hp → VK → Prop := fun vs H Q => ∃ (a : Addr) (ns : List Int), vs = [.ref a] ∧ SqL K H a (ns.map V.int) ∧ ns.length ≤ 63 ∧ (∀ n ∈ ns, Builtin.Int.intBits n ≤ 1048576) ∧ ∀ H', Q (.bl true) H'
theorem open_bs {g : Gh} {H : Hp} {ns : List Int} (hz : ns.length ≤ 63) (ne : g.a ≠ g.l) (h1 : H g.a = some (.dK (srcKv g (openS ns)))) (h2 : H g.l = some (.lst ((openS ns).cells.map V.int))) : Bs g H (fun _ => none) H (fun _ => none) (openS ns) :=
  ⟨(fun _ _ h => by cases h), h1, h2, rfl, rfl, ne, openS_ok hz, Stp.refl _ _ _⟩
/-- a frame in which nothing stands but the source, at place 1 -/
def evL (n : Nat) : Ev := .no :: .src :: List.replicate (n - 2) .no
theorem evL_slots {K : PySem.W.Frag} {g : Gh} {H0 H F : Hp} {N : List Str} {a : V} (h2 : 2 ≤ N.length) : Slots K g H0 H F ((L2.start N [a]).set 1 (some (.ref g.a))) (evL N.length) := by
  have hl : (L2.start N [a]).length = N.length := by
    unfold L2.start
    rw [List.length_append, List.length_map, List.length_replicate, List.length_singleton]; omega
  have no : ∀ (i : Nat) (s : Sl), (evL N.length)[i]? = some s → s = .no ∨ (s = .src ∧ i = 1) := by
    intro i s e
    unfold evL at e
    match i, e with
    | 0, e => exact .inl (by simpa using e.symm)
    | 1, e => exact .inr ⟨by simpa using e.symm, rfl⟩
    | i + 2, e =>
      have e' : (List.replicate (N.length - 2) Sl.no)[i]? = some s := by simpa using e
      exact .inl (List.mem_replicate.mp (List.mem_of_getElem? e')).2
  refine ⟨?_, fun i s x e1 e2 => ?_, fun i j s t c hij e1 e2 o1 o2 _ _ => ?_⟩
  · rw [List.length_set, hl]
    unfold evL
    rw [List.length_cons, List.length_cons, List.length_replicate]; omega
  · rcases no i s e1 with rfl | ⟨rfl, rfl⟩
    · exact True.intro
    · rw [List.getElem?_set_self (by rw [hl]; omega)] at e2
      cases e2; rfl
  · rcases no i s e1 with rfl | ⟨rfl, rfl⟩ <;> cases o1
/-- the law behind its first line -/
def tLawR (K : PySem.W.Frag) (m : Ev → M Fl) : TS := fun D σ H => ∃ g H0 F0, tS K g H0 F0 m D σ H
theorem pss_law {X : Cx} {ss : List Stmt} {m : Ev → M Fl} (h : SSs X ss m) : PSs X ss (tLawR X.K m) := ⟨fun pins s σ H D I ⟨g, H0, F0, q⟩ => (h g H0 F0).run pins s σ H D I q⟩
/-- what is to be shown of the law's mirror -/
def LawOk (n : Nat) (m : Ev → M Fl) : Prop := ∀ ns : List Int, ns.length ≤ 63 → (∀ z ∈ ns, Builtin.Int.intBits z ≤ 1048576) → ∃ st', m (evL n) (openS ns) = some (.rt (.bool true), st')
theorem fnG_law {P : Program} {w : World} {K : PySem.W.Frag} {mg : Str → Option Value} {base : Heap} {k : Nat} {f : Addr} {fd : FuncData} {st : Stmt} {N : List Str} {m : Ev → M Fl} (F : Fun K "law" "law" st f fd) (S : FnScope N ["script"] (defScope st)) (h2 : 2 ≤ N.length) (hm : LawOk N.length m)
    (hbody : ∀ (cdv : Value) (A : Around) (outer : List Env) (s : Shared) (H : Hp), Gd (cxOf CX0 P w K mg base N "law" (defScope st) f cdv A outer s H E0).nox k →
      PSs (cxOf CX0 P w K mg base N "law" (defScope st) f cdv A outer s H E0).nox (defBody st) (tSeq (tAsg (fun σ H Q => (tCons (tVar 0) tNil) σ H fun vs H1 => spOpen K vs H1 Q) (gName 1)) (tLawR K m))) :
    FnG P w K mg base (k + 1) f fd ["script"] (spLaw K) :=
  fnG_of F S (fun vs H Q h => by obtain ⟨a, ns, rfl, _⟩ := h; rfl) fun cdv A outer s H vs Q hr hgu ⟨a, ns, ev, hS, hz, hb, q⟩ => by
    refine ⟨_, hbody cdv A outer s H ⟨rfl, S.nd, hgu, hr⟩, ?_⟩
    subst ev
    have h0 : (L2.start N [V.ref a])[0]? = some (some (.ref a)) := rfl
    refine ⟨_, h0, a, ns, rfl, hS, hz, fun H' g sm ne n1 n2 h1 h2' => ?_⟩
    obtain ⟨st', e⟩ := hm ns hz hb
    refine ⟨g, H', fun _ => none, evL N.length, _, _, _, st', open_bs hz ne h1 h2', evL_slots h2, e, fun v H2 F2 _ _ r => ?_⟩
    cases r
    exact q H2

/-- what the opening's body does, read off -/
def tOpen (K : PySem.W.Frag) : TS :=
  tSeq (tAsg (tC (V.int 11)) (gName 1))
    (tSeq (tFor (iList K (tVar 0)) (gName 2)
        (tAsg (tOp (rI (fun x j => 0 < j) fun i j => V.int (i % j))
            (tCB (fun xs H Q => (∃ i, xs = [V.int i] ∧ Q (V.int i) H) ∨ ∃ k, xs = [V.bl k] ∧ Q (V.int (if k = true then 1 else 0)) H)
              (tCons (tOp (rI0 fun i j => V.int (i + j)) (tOp (rI0 fun i j => V.int (i + j)) (tOp (rI CMul fun i j => V.int (i * j)) (tVar 1) (tC (V.int 69069))) (tOp (rI CMul fun i j => V.int (i * j)) (tVar 2) (tC (V.int 31)))) (tC (V.int 5))) tNil))
            (tC (V.int 2147483629))) (gName 1)))
      (tSeq (tAsg (tLc (iList K (tVar 0)) (gName 2) tYes (tCB (fun xs H Q => ∃ i, xs = [V.int i] ∧ Q (V.int (if i < 0 then -i else i)) H) (tCons (tVar 2) tNil)) [2]) (gName 3))
        (tRet (tDisp [(tC (V.str "cells"), tRevL K (tVar 3)), (tC (V.str "left"), tC (V.int 1)), (tC (V.str "mixed"), tVar 1), (tC (V.str "turn"), tC (V.int 0))]))))
theorem same_updZ {H : Hp} {p : Addr} {o : HO} (h : H p = none) : Same H (upd H p o) := fun b x e => by
  rw [upd_ne (ne_of_none e h)]
  exact e
theorem open_read {K : PySem.W.Frag} {H : Hp} {a : Addr} {ns : List Int} {Q : VK} (hS : SqL K H a (ns.map V.int)) (hz : ns.length ≤ 63)
    (q : ∀ (H' : Hp) (g : Gh), Same H H' → g.a ≠ g.l → H g.a = none → H g.l = none → H' g.a = some (.dK (srcKv g (openS ns))) → H' g.l = some (.lst ((openS ns).cells.map V.int)) → Q (.ref g.a) H') :
    tOpen K { nx := fun _ H' => Q .non H', rt := Q } (L2.start ["script", "stirred", "cell", "cells"] [V.ref a]) H := by
  have at_ : ∀ (i : Nat) (x : V), (ns.map V.int)[i]? = some x → ∃ z, ns[i]? = some z ∧ x = .int z := fun i x h => by
    rw [List.getElem?_map] at h
    obtain ⟨z, h1, h2⟩ := Option.map_eq_some_iff.mp h
    exact ⟨z, h1, h2.symm⟩
  refine ⟨_, rfl, a, rfl, ⟨_, hS⟩, for_list (K := K) (a := a) (xs := ns.map V.int) (fun i σ H2 => ∃ v : Option V, σ = [some (.ref a), some (.int (stirI (ns.take i) 11)), v, none] ∧ H2 = H) ⟨none, rfl, rfl⟩ (fun i σ H2 _ ⟨_, _, e⟩ => by rw [e]; exact hS) ?_ ?_⟩
  · rintro i x σ H2 hi ⟨v, rfl, rfl⟩
    obtain ⟨z, hz', rfl⟩ := at_ i x hi
    refine ⟨_, rfl, _, _, rfl, rfl, Or.inr ⟨by decide, by decide⟩, _, rfl, _, _, rfl, rfl, Or.inr ⟨by decide, by decide⟩, _, _, rfl, rfl, _, _, rfl, rfl, .inl ⟨_, rfl, _, _, rfl, rfl, (by show (0 : Int) < 2147483629; decide), ?_⟩⟩
    exact ⟨some (.int z), by rw [stirI_snoc _ ns i z hz']; rfl, rfl⟩
  · rintro σ H2 ⟨v, rfl, rfl⟩
    rw [List.length_map, List.take_length]
    refine ⟨_, rfl, a, rfl, ⟨_, hS⟩, fun D hD => ?_⟩
    have sD : ∀ o, SqL K (upd H2 D o) a (ns.map V.int) := fun o => (same_updZ hD).seq hS
    refine ⟨fun i m H3 => i ≤ ns.length ∧ m = ns.length - i ∧ H3 = upd H2 D (.lst (((ns.map iabs).take i).map V.int)), ⟨ns.length, Nat.zero_le _, rfl, rfl⟩, ?_⟩
    rintro i m H3 ⟨hi, rfl, rfl⟩
    by_cases hl : i < ns.length
    · have hx : ns[i]? = some ns[i] := List.getElem?_eq_getElem hl
      have hx' : (ns.map V.int)[i]? = some (.int ns[i]) := by rw [List.getElem?_map, hx]; rfl
      refine .inr ⟨⟨_, _, sD _, hx'⟩, fun H' => H' = upd H2 D (.lst (((ns.map iabs).take (i + 1)).map V.int)), fun H' e => ⟨ns.length - (i + 1), by omega, by omega, rfl, e⟩, ?_⟩
      rintro x H4 ⟨rfl, hy⟩
      have ex := hy _ (sD _)
      rw [hx'] at ex
      cases ex
      refine ⟨rfl, ?_⟩
      refine ⟨_, rfl, _, rfl, _, upd_same, ?_, ?_⟩
      · rw [List.length_map, List.length_take, List.length_map]
        have : (1000000 : Nat) < sizeLine := by decide
        omega
      · rw [upd_upd]
        have hab : (ns.map iabs)[i]? = some (iabs ns[i]) := by rw [List.getElem?_map, hx]; rfl
        rw [List.take_add_one, hab, List.map_append]
        rfl
    · have ei : i = ns.length := by omega
      subst ei
      refine .inl ⟨⟨_, sD _, by rw [List.length_map]; exact Nat.le_refl _⟩, ?_⟩
      have tk : ((ns.map iabs).take ns.length) = ns.map iabs := List.take_of_length_le (by rw [List.length_map]; exact Nat.le_refl _)
      rw [tk]
      intro p hp
      have npD : p ≠ D := fun z => by rw [z, upd_same] at hp; cases hp
      have hp0 : H2 p = none := by rw [upd_ne npD] at hp; exact hp
      refine ⟨_, rfl, D, _, rfl, SqL.of (by rw [upd_ne (Ne.symm npD), upd_same]), fun l hl2 => ?_⟩
      have nlp : l ≠ p := fun z => by rw [z, upd_same] at hl2; cases hl2
      have hl3 : (upd H2 D (.lst ((ns.map iabs).map V.int))) l = none := by rw [upd_ne nlp] at hl2; exact hl2
      have nlD : l ≠ D := fun z => by rw [z, upd_same] at hl3; cases hl3
      have hl0 : H2 l = none := by rw [upd_ne nlD] at hl3; exact hl3
      refine ⟨_, rfl, ?_⟩
      refine ⟨by rw [upd_ne (Ne.symm nlp), upd_same], [(.inr "cells", .ref l), (.inr "left", .int 1), (.inr "mixed", .int (stirI ns 11)), (.inr "turn", .int 0)], rfl, (by show (4 : Nat) ≤ 15; decide), ?_⟩
      refine q _ ⟨p, l⟩ (fun b x e => ?_) (Ne.symm nlp) hp0 hl0 ?_ ?_
      · rw [upd_ne (ne_of_none e hp0), upd_ne (ne_of_none e hl0), upd_ne (ne_of_none e hp0), upd_ne (ne_of_none e hD)]
        exact e
      · rw [upd_same]; rfl
      · rw [upd_ne nlp, upd_same]
        show some (HO.lst _) = some (HO.lst (((ns.map iabs).reverse).map V.int))
        rw [List.map_reverse]
end DL
end

section
set_option Elab.async false
set_option linter.all false
set_option maxRecDepth 100000
set_option maxHeartbeats 4000000
/-! DL14: from the law's promise to what the head leaves. -/
namespace DL
open PySem PySem.Spec PyProof.Rows L2
section
variable {P : Program} {w : World} {K : PySem.W.Frag} {mg mb : Str → Option Value} {k : Nat} {fa a : Addr} {fd : FuncData} {s₁ : Shared} {vs : List Value} {ns : List Int}
abbrev Won (s₁ : Shared) : Result → Shared → Prop := fun r s' => r = .ok (.ret (.bool true)) ∧ OldK s₁.heap s'.heap ∧ s'.os = s₁.os ∧ AllBare s'.gens
/-- nothing but the script is tracked in H -/
structure Lone (P : Program) (w : World) (K : PySem.W.Frag) (a : Addr) (h : Heap) (H : Hp) (ns : List Int) : Prop where
  only : Only H
  seq : SqL K H a (ns.map V.int)
  hok : HOk P w H h
  sole : ∀ b, H b ≠ none → b = a
  out : H a ≠ none → K.lookup a = none
theorem Lone.none {h : Heap} {H : Hp} (L : Lone P w K a h H ns) {b : Addr} (hb : b = a → H a = none) : H b = none := by
  cases q : H b with
  | none => rfl
  | some u =>
    have e := L.sole b (by rw [q]; simp)
    subst e
    rw [hb rfl] at q; cases q
theorem lone_run (KX : K.In s₁.heap) (hns : s₁.heap.Ns mainGlobals mg) (hb : s₁.heap.Ns builtinsNs mb) (hbb : ∀ x : Str, x ≠ "__name__" → mb x = bootBuiltins x) (hlim : s₁.heap.NoLimit) (hg : s₁.gens = #[])
    (ha : s₁.heap.get? a = some { cls := .type "list", data := .seq vs.toArray }) (hz : ns.length ≤ 63) (hbits : ∀ n ∈ ns, Builtin.Int.intBits n ≤ 1048576) (hr : Room k callerA)
    (F : ∀ base : Heap, K.In base → base.Ns mainGlobals mg → FnG P w K mg base k fa fd ["script"] (spLaw K)) (hbind : ∀ (s : Shared) (u : Value), BindsTo s fd ⟨[u], []⟩ [("script", u)])
    {H : Hp} (L : Lone P w K a s₁.heap H ns) : codeAny (model P w) callerA (.call (.ref fa) ⟨[.ref a], []⟩) (Won s₁) s₁ := by
  have nodict : ∀ {b : Addr} {o : Obj} {es : Array DictEntry} {ep : Nat}, s₁.heap.get? b = some o → o.data = .dict es ep → H b = none := fun {b o es ep} e d => L.none fun z => by
    subst z
    rw [ha] at e; cases e
    exact absurd (show Data.seq vs.toArray _ = Data.dict es ep from d) (fun z => by cases z)
  have ns_ : ∀ {b : Addr} {m : Str → Option Value}, s₁.heap.Ns b m → (hidT s₁.heap H).Ns b m := fun {b m} ⟨o, es, ep, e, d, r⟩ => ⟨o, es, ep, hidT_get e (nodict e d), d, r⟩
  have kin : K.In (hidT s₁.heap H) := fun b o e => hidT_get (KX b o e) (L.none fun z => by
    subst z
    cases q : H b with
    | none => rfl
    | some u => rw [L.out (by rw [q]; simp)] at e; cases e)
  have md : Mod K mg (hidT s₁.heap H) := ⟨kin, ns_ hns, ⟨mb, ns_ hb, hbb⟩, let ⟨mc, h1, h2⟩ := hlim; ⟨mc, ns_ h1, h2⟩⟩
  have env : Env0 P w K mg (hidT s₁.heap H) callerA [] s₁ H := ⟨rfl, md, fun b o e => of_hidT e, Nat.le_of_eq (hidT_size _ _), trivial, (fun b hb => nomatch hb), L.hok, .of_eq hg⟩
  have run := (F _ kin (ns_ hns)).run callerA [] s₁ H ⟨[.ref a], []⟩ [.ref a] [.ref a] (fun v _ => v = .bl true) hr rfl env (hbind s₁ (.ref a)) (.cons rfl .nil) ⟨a, ns, rfl, L.seq, hz, hbits, fun _ => rfl⟩
  refine codeAny_mono run fun r s' h => ?_
  match r, h with
  | .error e, h => exact False.elim h
  | .ok .next, h => exact False.elim h
  | .ok .brk, h => exact False.elim h
  | .ok .cont, h => exact False.elim h
  | .ok (.ret u), h =>
    obtain ⟨v, H', os, bare, un, hok', rv, ev⟩ := h
    subst ev
    cases (show u = Value.bool true from rv)
    refine ⟨rfl, OldK.of_keep fun b o e => ?_, os, bare⟩
    cases q : H b with
    | none => exact un.keep b o e q (fun z => nomatch z) (fun z => nomatch z)
    | some u =>
      rcases L.only b with z | ⟨ob, xs, z⟩
      · rw [q] at z; cases z
      · obtain ⟨e1, _⟩ := L.hok b _ z
        obtain ⟨e2, _⟩ := hok' b _ (un.frzs b ob _ z)
        rw [e] at e1; cases e1
        exact e2
/-- H tracks the script's list, or nothing -/
theorem lone_ex (KX : K.In s₁.heap) (ha : s₁.heap.get? a = some { cls := .type "list", data := .seq vs.toArray }) (hi : IntsAre vs ns) (hz : ns.length ≤ 63) : ∃ H, Lone P w K a s₁.heap H ns := by
  have rv := vals_ints hi
  have hl : ns.length ≤ sizeLine := Nat.le_trans hz (by decide)
  cases hk : K.lookup a with
  | some o =>
    have e := KX a o hk
    rw [ha] at e
    cases e
    exact ⟨fun _ => none, ⟨fun _ => .inl rfl, .inr ⟨_, vs.toArray, _, hk, rfl, rfl, rfl, by rw [List.size_toArray, hi.length]; exact hl, by simpa using rv⟩, (fun b u z => nomatch z), fun b z => absurd rfl z, fun z => absurd rfl z⟩⟩
  | none =>
    have at_ : ∀ b u, (fun b => if b = a then some (HO.frz { cls := .type "list", data := .seq vs.toArray } (.lst (ns.map V.int))) else none) b = some u → b = a ∧ u = HO.frz { cls := .type "list", data := .seq vs.toArray } (.lst (ns.map V.int)) := fun b u z => by
      by_cases hb : b = a
      · exact ⟨hb, (Option.some.inj ((if_pos hb).symm.trans z)).symm⟩
      · exact absurd ((if_neg hb).symm.trans z) (fun z => nomatch z)
    refine ⟨fun b => if b = a then some (HO.frz { cls := .type "list", data := .seq vs.toArray } (.lst (ns.map V.int))) else none, ⟨fun b => ?_, .inl (.inr ⟨_, if_pos rfl⟩), fun b u z => ?_, fun b z => ?_, fun _ => hk⟩⟩
    · by_cases hb : b = a
      · exact .inr ⟨_, _, if_pos hb⟩
      · exact .inl (if_neg hb)
    · obtain ⟨rfl, rfl⟩ := at_ b u z
      exact ⟨ha, by rw [List.length_map]; exact hl, vs, _, rv, ha⟩
    · cases q : (if b = a then some (HO.frz { cls := .type "list", data := .seq vs.toArray } (.lst (ns.map V.int))) else none) with
      | none => exact absurd q z
      | some u => exact (at_ b u q).1
end
/-- the goal that the head leaves -/
theorem walk_ofG {l : PySem.W.OpenLaw} {k : Nat} {q : Program} {loose : List Str} {XP : (Str → Option Value) → Heap → Prop} {YP : World → Heap → Prop} {d : DefRec} {K : Params → PySem.W.Frag}
    (hn : l.most = some 63) (hdf : d.params.defaults = []) (hr : Room k callerA) (hY : ∀ (w : World) (h : Heap), YP w h → (K w.params).In h)
    (F : ∀ (w : World) (mg : Str → Option Value) (fa : Addr) (h : Heap), (K w.params).In h → h.Ns mainGlobals mg → mg d.name = some (.ref fa) →
      ∃ fd : FuncData, (∀ (s : Shared) (u : Value), BindsTo s fd ⟨[u], []⟩ [("script", u)]) ∧ ∀ base : Heap, (K w.params).In base → base.Ns mainGlobals mg → FnG l.prog w (K w.params) mg base k fa fd ["script"] (spLaw (K w.params))) :
    PySem.W.WalkO q loose XP YP l.row.toRowW d [] (fun f vs => PySem.call f vs) := by
  refine Att.attach_callB hn hdf fun w s₀ s₁ mg mb fa o pm cd doc a vs ns G Y ho hd hcd hmg hobj hints hlen hbits hg => ?_
  obtain ⟨fd, hb, hF⟩ := F w mg fa _ (hY w _ Y) G.T.g hmg
  obtain ⟨H, L⟩ := lone_ex (P := l.prog) (w := w) (hY w _ Y) hobj hints hlen
  exact lone_run (hY w _ Y) G.T.g G.T.b G.T.builtins G.T.nolimit hg hobj hlen hbits hr hF hb L
theorem vals_int {i : Int} {t : Tok} {xs : List V} {us : List Value} (h : Vals xs us) : Vals (.int i :: xs) (.int i t :: us) := .cons ⟨t, rfl⟩ h
theorem vals_ref {a : Addr} {xs : List V} {us : List Value} (h : Vals xs us) : Vals (.ref a :: xs) (.ref a :: us) := .cons rfl h
theorem tpK_mk {K : PySem.W.Frag} {F : Hp} {a : Addr} {its : Array Value} {n : Nat} {s : Array (Option Value)} {xs : List V} (h : K.lookup a = some ⟨.type "tuple", none, .seq its n, s⟩) (hz : its.size ≤ 1000) (v : Vals xs its.toList) : TpK K F a xs :=
  .inr ⟨_, its, n, h, rfl, rfl, rfl, Nat.le_trans hz (by decide), v⟩
end DL
end

section
set_option Elab.async false
set_option linter.all false
set_option maxRecDepth 100000
set_option maxHeartbeats 4000000
/-! DL15: mirrors worked out. -/
namespace DL
open PySem PySem.Spec
theorem lft_some {α : Type} (a : α) : (lft (some a) : M α) = pure a := rfl
theorem getE0 {α : Type} (a : α) (l : List α) : (a :: l)[0]? = some a := rfl
theorem getES {α : Type} (a : α) (l : List α) (n : Nat) : (a :: l)[n + 1]? = l[n]? := by simp
theorem rdV_vl (d : PyData) : rdV (some (.vl d)) = some d := rfl
theorem rdB_vl (d : PyData) : rdB (some (.vl d)) = some d := rfl
theorem rdB_ol (d : List PyData) : rdB (some (.ol d)) = some (.list d) := rfl
theorem rdB_od (d : List (PyData × PyData)) : rdB (some (.od d)) = some (.dict d) := rfl
theorem asB_b (b : Bool) : asB (.bool b) = some b := rfl
theorem asI_i (b : Int) : asI (.int b) = some b := rfl
theorem seqD_l (d : List PyData) : seqD (.list d) = some d := rfl
theorem seqD_t (d : List PyData) : seqD (.tuple d) = some d := rfl
theorem keysL_d (d : List (PyData × PyData)) : keysL (.dict d) = some (d.map (·.1)) := rfl
theorem lenI1 {α : Type} (a : α) : lenI 1 [a] = some [a] := rfl
theorem lenI2 {α : Type} (a b : α) : lenI 2 [a, b] = some [a, b] := rfl
theorem lenI3 {α : Type} (a b c : α) : lenI 3 [a, b, c] = some [a, b, c] := rfl
/-- runs from every state, and what it gives -/
def Tri {α : Type} (m : M α) (P : α → Prop) : Prop := ∀ st : Pk, st.ok → ∃ a st', m st = some (a, st') ∧ st'.ok ∧ P a
theorem Tri.pure {α : Type} {a : α} {P : α → Prop} (h : P a) : Tri (Pure.pure a : M α) P := fun st ok => ⟨a, st, rfl, ok, h⟩
theorem Tri.eq {α : Type} {m : M α} {a : α} {P : α → Prop} (e : m = Pure.pure a) (h : P a) : Tri m P := e ▸ Tri.pure h
theorem Tri.bind {α β : Type} {m : M α} {f : α → M β} {P : α → Prop} {Q : β → Prop} (h : Tri m P) (hf : ∀ a, P a → Tri (f a) Q) : Tri (m >>= f) Q := fun st ok => by
  obtain ⟨a, st1, e, ok1, p⟩ := h st ok
  obtain ⟨b, st2, e2, ok2, q⟩ := hf a p st1 ok1
  refine ⟨b, st2, ?_, ok2, q⟩
  show (m st).bind (fun p => f p.1 p.2) = _
  rw [e]; exact e2
theorem Tri.mono {α : Type} {m : M α} {P Q : α → Prop} (h : Tri m P) (hi : ∀ a, P a → Q a) : Tri m Q := fun st ok => let ⟨a, st', e, k, p⟩ := h st ok; ⟨a, st', e, k, hi a p⟩
theorem Tri.lft {α : Type} {o : Option α} {a : α} {P : α → Prop} (e : o = some a) (h : P a) : Tri (DL.lft o) P := by subst e; exact Tri.pure h
theorem fn_rt {b : Bool} {n : Nat} {m : Ev → M Fl} {ds : List PyData} {d : PyData} (h : m (ev0 b n ds) = pure (.rt d)) : fnM b n m ds = pure d := by
  unfold fnM
  rw [h]; rfl
/-! comprehensions and loops whose steps touch nothing -/
theorem lcM_pure {f : PyData → M (Option PyData)} {g : PyData → Option PyData} : ∀ {ds : List PyData}, (∀ d ∈ ds, f d = pure (g d)) → lcM ds f = pure (ds.filterMap g)
  | [], _ => rfl
  | d :: ds, h => by
    unfold lcM
    rw [h d List.mem_cons_self, lcM_pure fun x hx => h x (List.mem_cons_of_mem _ hx), List.filterMap_cons]
    cases g d <;> rfl
theorem boolsOf_map : ∀ ns : List Bool, boolsOf (ns.map PyData.bool) = some ns := boolsOf_bools
theorem lcM_bools {f : PyData → M (Option PyData)} {g : PyData → Bool} {ds : List PyData} (h : ∀ d ∈ ds, f d = pure (some (.bool (g d)))) : lcM ds f = pure ((ds.map g).map PyData.bool) := by
  rw [lcM_pure h]
  congr 1
  induction ds with
  | nil => rfl
  | cons d ds ih => rw [List.filterMap_cons]; simp [ih fun x hx => h x (List.mem_cons_of_mem _ hx)]
theorem lcM_filter {f : PyData → M (Option PyData)} {c : PyData → Bool} {h : PyData → PyData} {ds : List PyData} (hf : ∀ d ∈ ds, f d = pure (if c d = true then some (h d) else none)) : lcM ds f = pure ((ds.filter c).map h) := by
  rw [lcM_pure hf]
  congr 1
  clear hf
  induction ds with
  | nil => rfl
  | cons d ds ih =>
    rw [List.filterMap_cons, List.filter_cons]
    cases hc : c d with
    | true => simp [ih]
    | false => simp [ih]
theorem lcM_map {f : PyData → M (Option PyData)} {h : PyData → PyData} {ds : List PyData} (hf : ∀ d ∈ ds, f d = pure (some (h d))) : lcM ds f = pure (ds.map h) := by
  rw [lcM_pure hf]
  congr 1
  clear hf
  induction ds with
  | nil => rfl
  | cons d ds ih => rw [List.filterMap_cons, List.map_cons, ih]
theorem eqF_nil (xs : List PyData) : eqF (.list xs) (.list []) = some xs.isEmpty := by
  unfold eqF
  cases xs with
  | nil => rw [if_pos ⟨rfl, rfl, .inl (by simp [PyData.depth, PyData.depthAll])⟩]; simp [PyData.eqv, PyData.eqvAll]
  | cons x xs =>
    split
    · simp [PyData.eqv, PyData.eqvAll]
    · simp
theorem eqD_nil (xs : List PyData) : eqD (.list xs) (.list []) = some (.bool xs.isEmpty) := by unfold eqD; rw [eqF_nil]; rfl
theorem neD_nil (xs : List PyData) : neD (.list xs) (.list []) = some (.bool (!xs.isEmpty)) := by unfold neD; rw [eqF_nil]; rfl
theorem mulD_ok {i j : Int} (h : j.natAbs < 1152921504606846976 ∨ i.natAbs < 1152921504606846976) : mulD (.int i) (.int j) = some (.int (i * j)) := if_pos (h.elim .inl fun h => .inr (.inl h))
theorem p62 : (2 : Int) ^ 62 = 4611686018427387904 := by decide
theorem rng1D_ok {j : Int} (h1 : -1000000000 ≤ j) (h2 : j ≤ 1000000000) : rng1D [.int j] = some (rngD 0 j.toNat) := by
  show (if -(2 ^ 62) ≤ j ∧ j < 2 ^ 62 then some (rngD 0 j.toNat) else none) = _
  rw [p62, if_pos ⟨by omega, by omega⟩]
theorem rng2D_ok {i j : Int} (h1 : -1000000000 ≤ i) (h2 : i ≤ 1000000000) (h3 : -1000000000 ≤ j) (h4 : j ≤ 1000000000) : rng2D [.int i, .int j] = some (rngD i (j - i).toNat) := by
  show (if -(2 ^ 62) ≤ i ∧ i < 2 ^ 62 ∧ -(2 ^ 62) ≤ j ∧ j < 2 ^ 62 then some (rngD i (j - i).toNat) else none) = _
  rw [p62, if_pos ⟨by omega, by omega, by omega, by omega⟩]
theorem cutP_from1 (ds : List PyData) : cutP ds (some 1) none = ds.drop 1 := by
  unfold cutP
  rw [show HT.sIx ds.length 0 (some 1) = min 1 ds.length from HT.sIx_nat ds.length 0 1, HT.sIx_none]
  cases ds with
  | nil => rfl
  | cons x r =>
    rw [show min 1 (x :: r).length = 1 by rw [List.length_cons]; omega, List.take_of_length_le]
    rw [List.length_drop]; exact Nat.le_refl _
theorem allD_map (bs : List Bool) : allD [.list (bs.map PyData.bool)] = some (.bool (bs.all id)) := by
  show (boolsOf (bs.map PyData.bool)).map _ = _
  rw [boolsOf_map]; rfl
theorem allD_mapc (g : PyData → Bool) (ds : List PyData) : allD [.list (ds.map (PyData.bool ∘ g))] = some (.bool (ds.all g)) := by
  rw [← List.map_map, allD_map, List.all_map]; rfl
theorem eqF_int (i j : Int) : eqF (.int i) (.int j) = some (decide (i = j)) := by
  unfold eqF
  rw [if_pos ⟨rfl, rfl, .inl (by simp [PyData.depth])⟩]
  simp [PyData.eqv]
  by_cases h : i = j <;> simp [h]
theorem neD_int (i j : Int) : neD (.int i) (.int j) = some (.bool (!decide (i = j))) := by unfold neD; rw [eqF_int]; rfl
theorem eqD_int (i j : Int) : eqD (.int i) (.int j) = some (.bool (decide (i = j))) := by unfold eqD; rw [eqF_int]; rfl

/-! ### data that can be shown -/
mutual
def txt : PyData → Bool
  | .none | .bool _ | .int _ => true
  | .str x => x.cps.toList.all fun c => decide (c < 16 ^ 8)
  | .list xs | .tuple xs => txtAll xs
  | .dict kvs => txtKv kvs
def txtAll : List PyData → Bool
  | [] => true
  | x :: xs => txt x && txtAll xs
def txtKv : List (PyData × PyData) → Bool
  | [] => true
  | (k, v) :: r => txt k && txt v && txtKv r
end
theorem int_short {i : Int} (h : (PyData.int i).weight ≤ 900) : i.natAbs.log2 < 900 := by
  by_cases h0 : i = 0
  · subst h0; decide
  · have : (PyData.int i).weight = i.natAbs.log2 + 1 := by
      simp only [PyData.weight]
      rw [if_neg (by simpa using h0)]
    omega
mutual
theorem leaves_ok : ∀ d : PyData, d.weight ≤ 900 → txt d = true → d.leavesShort 1000 = true ∧ d.showable = true
  | .none, _, _ => ⟨by simp only [PyData.leavesShort], by simp only [PyData.showable]⟩
  | .bool _, _, _ => ⟨by simp only [PyData.leavesShort], by simp only [PyData.showable]⟩
  | .int i, h, _ => by
    have h1 := int_short h
    refine ⟨?_, ?_⟩
    · simp only [PyData.leavesShort, decide_eq_true_eq]
      have h2 := int_text_length_le (a := i) (k := 900) (by decide) h1
      have e : (PyData.shown (.int i)).length = (toString i).length := by
        simp only [PyData.shown]
        exact ofString_length _
      omega
    · simp only [PyData.showable, decide_eq_true_eq]; omega
  | .str x, _, h => ⟨by simpa only [PyData.leavesShort, txt] using h, by simp only [PyData.showable]⟩
  | .list xs, h, t => by
    have := leavesAll_ok xs (by simpa only [PyData.weight] using h) (by simpa only [txt] using t)
    exact ⟨by simpa only [PyData.leavesShort] using this.1, by simpa only [PyData.showable] using this.2⟩
  | .tuple xs, h, t => by
    have := leavesAll_ok xs (by simpa only [PyData.weight] using h) (by simpa only [txt] using t)
    exact ⟨by simpa only [PyData.leavesShort] using this.1, by simpa only [PyData.showable] using this.2⟩
  | .dict kvs, h, t => by
    have := leavesKv_ok kvs (by simpa only [PyData.weight] using h) (by simpa only [txt] using t)
    exact ⟨by simpa only [PyData.leavesShort] using this.1, by simpa only [PyData.showable] using this.2⟩
theorem leavesAll_ok : ∀ xs : List PyData, PyData.weightAll xs ≤ 900 → txtAll xs = true → PyData.leavesShortAll 1000 xs = true ∧ PyData.showableAll xs = true
  | [], _, _ => ⟨by simp only [PyData.leavesShortAll], by simp only [PyData.showableAll]⟩
  | x :: xs, h, t => by
    simp only [PyData.weightAll] at h
    simp only [txtAll, Bool.and_eq_true] at t
    have h1 := leaves_ok x (by omega) t.1
    have h2 := leavesAll_ok xs (by omega) t.2
    exact ⟨by simp only [PyData.leavesShortAll, h1.1, h2.1, Bool.and_self], by simp only [PyData.showableAll, h1.2, h2.2, Bool.and_self]⟩
theorem leavesKv_ok : ∀ xs : List (PyData × PyData), PyData.weightKv xs ≤ 900 → txtKv xs = true → PyData.leavesShortKv 1000 xs = true ∧ PyData.showableKv xs = true
  | [], _, _ => ⟨by simp only [PyData.leavesShortKv], by simp only [PyData.showableKv]⟩
  | (k, v) :: xs, h, t => by
    simp only [PyData.weightKv] at h
    simp only [txtKv, Bool.and_eq_true] at t
    have h0 := leaves_ok k (by omega) t.1.1
    have h1 := leaves_ok v (by omega) t.1.2
    have h2 := leavesKv_ok xs (by omega) t.2
    exact ⟨by simp only [PyData.leavesShortKv, h0.1, h1.1, h2.1, Bool.and_self], by simp only [PyData.showableKv, h0.2, h1.2, h2.2, Bool.and_self]⟩
end
/-- small enough to be shown -/
structure Tm (d : PyData) : Prop where
  w : d.weight ≤ 900
  dp : d.depth ≤ 50
  tx : txt d = true
theorem Tm.repr {d : PyData} (h : Tm d) : reprL [d] = some (.str d.shown) := by
  have h1 := leaves_ok d h.w h.tx
  have h2 := PyData.shown_le 1000 (by decide) d h1.1
  have h3 := h.w
  have h4 := h.dp
  show (if d.showable = true ∧ d.shown.length ≤ 1000000 ∧ d.depth ≤ 60 then some (PyData.str d.shown) else none) = _
  rw [if_pos ⟨h1.2, by omega, by omega⟩]
end DL
end

section
set_option Elab.async false
set_option linter.all false
set_option maxRecDepth 100000
set_option maxHeartbeats 4000000
/-! DL16: dicts with numbers as keys. -/
namespace DL
open PySem PySem.Spec PyProof.Rows L2
abbrev dd (K : List (Int × PyData)) : List (PyData × PyData) := K.map fun e => (.int e.1, e.2)
abbrev dks (K : List (Int × PyData)) : List (Key × PyData) := K.map fun e => (.inl e.1, e.2)
theorem keyOf_iff (a i : Int) : (keyOf (.int a) = some (.inl i)) ↔ a = i := by
  constructor
  · intro h; cases h; rfl
  · rintro rfl; rfl
theorem any_dd (K : List (Int × PyData)) (i : Int) : ((dd K).any fun kv => decide (keyOf kv.1 = some (.inl i))) = K.any fun e => decide (e.1 = i) := by
  rw [List.any_map]
  congr 1
  funext e
  simp [keyOf_iff]
theorem dput_dd (K : List (Int × PyData)) (i : Int) (v : PyData) : dput (dd K) (.inl i) v = dd (if (K.any fun e => decide (e.1 = i)) = true then K.map fun e => if e.1 = i then (e.1, v) else e else K ++ [(i, v)]) := by
  unfold dput
  rw [any_dd]
  split
  · show (K.map _).map _ = (K.map _).map _
    rw [List.map_map, List.map_map]
    refine List.map_congr_left fun e _ => ?_
    by_cases h : e.1 = i
    · simp [h, keyOf_iff]
    · simp [h, keyOf_iff]
  · simp [keyD]
theorem dput_mem {K : List (Int × PyData)} {i : Int} {v : PyData} : ∃ K', dput (dd K) (.inl i) v = dd K' ∧ K'.length ≤ K.length + 1 ∧ ∀ e ∈ K', ((∃ x ∈ K, e.1 = x.1) ∨ e.1 = i) ∧ ((∃ x ∈ K, e.2 = x.2) ∨ e.2 = v) := by
  rw [dput_dd]
  refine ⟨_, rfl, ?_, fun e he => ?_⟩
  · split <;> simp
  · split at he
    · obtain ⟨x, hx, rfl⟩ := List.mem_map.mp he
      split
      · exact ⟨.inl ⟨x, hx, rfl⟩, .inr rfl⟩
      · exact ⟨.inl ⟨x, hx, rfl⟩, .inl ⟨x, hx, rfl⟩⟩
    · rcases List.mem_append.mp he with h | h
      · exact ⟨.inl ⟨e, h, rfl⟩, .inl ⟨e, h, rfl⟩⟩
      · rw [List.mem_singleton.mp h]; exact ⟨.inr rfl, .inr rfl⟩
theorem dmerge_mem : ∀ (M K : List (Int × PyData)), ∃ K', dmerge (dd K) (dks M) = dd K' ∧ K'.length ≤ K.length + M.length ∧ ∀ e ∈ K', ((∃ x ∈ K, e.1 = x.1) ∨ ∃ x ∈ M, e.1 = x.1) ∧ ((∃ x ∈ K, e.2 = x.2) ∨ ∃ x ∈ M, e.2 = x.2)
  | [], K => ⟨K, rfl, Nat.le_refl _, fun e he => ⟨.inl ⟨e, he, rfl⟩, .inl ⟨e, he, rfl⟩⟩⟩
  | m :: M, K => by
    obtain ⟨K1, e1, l1, h1⟩ := dput_mem (K := K) (i := m.1) (v := m.2)
    obtain ⟨K2, e2, l2, h2⟩ := dmerge_mem M K1
    refine ⟨K2, ?_, by rw [List.length_cons]; omega, fun e he => ⟨?_, ?_⟩⟩
    · show dmerge (dput (dd K) (.inl m.1) m.2) (dks M) = _
      rw [e1, e2]
    · rcases (h2 e he).1 with ⟨x, hx, ex⟩ | ⟨x, hx, ex⟩
      · rcases (h1 x hx).1 with ⟨y, hy, ey⟩ | ey
        · exact .inl ⟨y, hy, ex.trans ey⟩
        · exact .inr ⟨m, List.mem_cons_self, ex.trans ey⟩
      · exact .inr ⟨x, List.mem_cons_of_mem _ hx, ex⟩
    · rcases (h2 e he).2 with ⟨x, hx, ex⟩ | ⟨x, hx, ex⟩
      · rcases (h1 x hx).2 with ⟨y, hy, ey⟩ | ey
        · exact .inl ⟨y, hy, ex.trans ey⟩
        · exact .inr ⟨m, List.mem_cons_self, ex.trans ey⟩
      · exact .inr ⟨x, List.mem_cons_of_mem _ hx, ex⟩
theorem dmerge_fresh : ∀ (M K : List (Int × PyData)), ((K ++ M).map (·.1)).Nodup → dmerge (dd K) (dks M) = dd (K ++ M)
  | [], K, _ => by rw [List.append_nil]; rfl
  | m :: M, K, h => by
    have hn : ¬ (K.any fun e => decide (e.1 = m.1)) = true := fun z => by
      obtain ⟨e, he, e1⟩ := List.any_eq_true.mp z
      rw [List.map_append, List.nodup_append] at h
      exact h.2.2 e.1 (List.mem_map.mpr ⟨e, he, rfl⟩) m.1 (List.mem_map.mpr ⟨m, List.mem_cons_self, rfl⟩) (of_decide_eq_true e1)
    show dmerge (dput (dd K) (.inl m.1) m.2) (dks M) = _
    rw [dput_dd, if_neg hn, dmerge_fresh M (K ++ [(m.1, m.2)]) (by simpa using h)]
    simp
theorem kvOf_dd (K : List (Int × PyData)) : kvOf (dd K) = dks K := by
  unfold kvOf
  rw [List.filterMap_map]
  induction K with
  | nil => rfl
  | cons e K ih =>
    rw [List.filterMap_cons, ih]; rfl
theorem prsOf_pk : ∀ K : List (Int × PyData), prsOf (K.map fun e => .tuple [.int e.1, e.2]) = some (dks K)
  | [] => rfl
  | e :: K => by
    show (prOf (.tuple [.int e.1, e.2])).bind (fun p => (prsOf (K.map fun e => .tuple [.int e.1, e.2])).bind fun ps => some (p :: ps)) = _
    rw [prsOf_pk K]; rfl
theorem dlook_mem {K : List (Int × PyData)} {i : Int} {v : PyData} (h : dlook (dd K) (.inl i) = some v) : ∃ e ∈ K, e.2 = v := by
  unfold dlook at h
  obtain ⟨kv, h1, rfl⟩ := Option.map_eq_some_iff.mp h
  obtain ⟨e, he, rfl⟩ := List.mem_map.mp (List.mem_of_find?_eq_some h1)
  exact ⟨e, he, rfl⟩
theorem sort_filter (ks : List Int) (p : Int → Bool) : (sortI ks).filter p = sortI (ks.filter p) := sortI_uniq ((sortI_perm ks).filter p) ((sortI_le ks).filter p)
end DL
end

section
set_option Elab.async false
set_option linter.all false
set_option maxRecDepth 100000
set_option maxHeartbeats 4000000
/-! DL17: mirrors that draw from the source: what they give from every state. -/
namespace DL
open PySem PySem.Spec PyProof.Rows L2
section
variable {ρ : Ev} {b : Bool} {n i j : Nat} {m ma mb mc : Ev → M PyData} {ms : Ev → M (List PyData)} {m1 m2 : Ev → M Fl} {c ca cb : Ev → M Bool} {ds : List PyData} {d : PyData} {P Q R : PyData → Prop} {Pf Qf : Fl → Prop}
theorem t_fn {m : Ev → M Fl} (h : Tri (m (ev0 b n ds)) fun fl => ∃ d, fl = .rt d ∧ P d) : Tri (fnM b n m ds) P :=
  Tri.bind h fun fl ⟨d, e, p⟩ => by subst e; exact Tri.pure p
theorem t_fnN {m : Ev → M Fl} (h : Tri (m (ev0 b n ds)) fun fl => (∃ d, fl = .rt d ∧ P d) ∨ ∃ ρ', fl = .nx ρ' ∧ P .none) : Tri (fnM b n m ds) P :=
  Tri.bind h fun fl hfl => by
    rcases hfl with ⟨d, e, p⟩ | ⟨ρ', e, p⟩
    · subst e; exact Tri.pure p
    · subst e; exact Tri.pure p
theorem t_seq {I : Ev → Prop} (h1 : Tri (m1 ρ) fun fl => ∃ ρ', fl = .nx ρ' ∧ I ρ') (h2 : ∀ ρ', I ρ' → Tri (m2 ρ') Qf) : Tri (mSeq m1 m2 ρ) Qf :=
  Tri.bind h1 fun fl ⟨ρ', e, p⟩ => by subst e; exact h2 ρ' p
theorem t_seqX {I : Ev → Prop} (h1 : Tri (m1 ρ) fun fl => (∃ ρ', fl = .nx ρ' ∧ I ρ') ∨ ∃ d, fl = .rt d ∧ Qf (.rt d)) (h2 : ∀ ρ', I ρ' → Tri (m2 ρ') Qf) : Tri (mSeq m1 m2 ρ) Qf :=
  Tri.bind h1 fun fl h => by
    rcases h with ⟨ρ', e, p⟩ | ⟨d, e, q⟩
    · subst e; exact h2 ρ' p
    · subst e; exact Tri.pure q
theorem t_if {B : Bool → Prop} (hc : Tri (c ρ) B) (h1 : B true → Tri (m1 ρ) Qf) (h2 : B false → Tri (m2 ρ) Qf) : Tri (mIfS c m1 m2 ρ) Qf :=
  Tri.bind hc fun b h => by
    cases b with
    | true => exact h1 h
    | false => exact h2 h
theorem t_ifE {B : Bool → Prop} (hc : Tri (c ρ) B) (h1 : B true → Tri (ma ρ) Q) (h2 : B false → Tri (mb ρ) Q) : Tri (mIfE c ma mb ρ) Q :=
  Tri.bind hc fun b h => by
    cases b with
    | true => exact h1 h
    | false => exact h2 h
theorem t_pass (h : Qf (.nx ρ)) : Tri (mPass ρ) Qf := Tri.pure h
theorem t_ret (h : Tri (m ρ) fun d => Qf (.rt d)) : Tri (mRet m ρ) Qf := Tri.bind h fun d p => Tri.pure p
theorem t_set (h : Tri (m ρ) fun d => Qf (.nx (ρ.set i (.vl d)))) : Tri (mSet i m ρ) Qf := Tri.bind h fun d p => Tri.pure p
theorem t_setF (h : Tri (ms ρ) fun d => Qf (.nx (ρ.set i (.ol d)))) : Tri (mSetF i ms ρ) Qf := Tri.bind h fun d p => Tri.pure p
theorem t_setD {ms : Ev → M (List (PyData × PyData))} (h : Tri (ms ρ) fun d => Qf (.nx (ρ.set i (.od d)))) : Tri (mSetD i ms ρ) Qf := Tri.bind h fun d p => Tri.pure p
theorem t_op {α : Type} {φ : PyData → PyData → Option α} {R : α → Prop} (ha : Tri (ma ρ) P) (hb : Tri (mb ρ) Q) (h : ∀ x y, P x → Q y → ∃ z, φ x y = some z ∧ R z) : Tri (mOp φ ma mb ρ) R :=
  Tri.bind ha fun x px => Tri.bind hb fun y qy => let ⟨_, e, r⟩ := h x y px qy; Tri.lft e r
theorem t_un {φ : PyData → Option PyData} (ha : Tri (ma ρ) P) (h : ∀ x, P x → ∃ z, φ x = some z ∧ R z) : Tri (mUn φ ma ρ) R :=
  Tri.bind ha fun x px => let ⟨_, e, r⟩ := h x px; Tri.lft e r
theorem t_un' {α : Type} {φ : PyData → Option α} {R : α → Prop} (ha : Tri (ma ρ) P) (h : ∀ x, P x → ∃ z, φ x = some z ∧ R z) : Tri (mUn' φ ma ρ) R :=
  Tri.bind ha fun x px => let ⟨_, e, r⟩ := h x px; Tri.lft e r
theorem t_cl {α : Type} {φ : List PyData → Option α} {P : List PyData → Prop} {R : α → Prop} (ha : Tri (ms ρ) P) (h : ∀ x, P x → ∃ z, φ x = some z ∧ R z) : Tri (mCl φ ms ρ) R :=
  Tri.bind ha fun x px => let ⟨_, e, r⟩ := h x px; Tri.lft e r
theorem t_rng {φ : List PyData → Option (List PyData)} {P : List PyData → Prop} {R : List PyData → Prop} (ha : Tri (ms ρ) P) (h : ∀ x, P x → ∃ z, φ x = some z ∧ R z) : Tri (mRng φ ms ρ) R :=
  Tri.bind ha fun x px => let ⟨_, e, r⟩ := h x px; Tri.lft e r
theorem t_nil {P : List PyData → Prop} (h : P []) : Tri (mNil ρ) P := Tri.pure h
theorem t_cons {P : List PyData → Prop} (ha : Tri (m ρ) fun d => Tri (ms ρ) fun r => P (d :: r)) : Tri (mCons m ms ρ) P :=
  Tri.bind ha fun x px => Tri.bind px fun y qy => Tri.pure qy
theorem t_name (e : ρ[i]? = some (.vl d)) (h : P d) : Tri (mName i ρ) P := Tri.lft (by rw [e]; rfl) h
theorem t_c (h : P d) : Tri (mC d ρ) P := Tri.pure h
theorem t_frz (h : Tri (ms ρ) fun xs => P (.list xs)) : Tri (mFrz ms ρ) P := Tri.bind h fun x px => Tri.pure px
theorem t_tup (h : Tri (ms ρ) fun xs => xs.length ≤ 1000000 ∧ P (.tuple xs)) : Tri (mTup ms ρ) P := Tri.bind h fun x px => Tri.bind (Tri.lft (P := (· = x)) (show sz x = some x from if_pos px.1) rfl) fun y e => by subst e; exact Tri.pure px.2
theorem t_lst {P : List PyData → Prop} (h : Tri (ms ρ) fun xs => xs.length ≤ 1000000 ∧ P xs) : Tri (mLst ms ρ) P := Tri.bind h fun x px => Tri.lft (show sz x = some x from if_pos px.1) px.2
theorem t_asB {B : Bool → Prop} (h : Tri (m ρ) fun d => ∃ b, d = .bool b ∧ B b) : Tri (mAsB m ρ) B := Tri.bind h fun x ⟨b, e, p⟩ => by subst e; exact Tri.lft rfl p
theorem t_not {B : Bool → Prop} (h : Tri (c ρ) fun b => B (!b)) : Tri (mNotT c ρ) B := Tri.bind h fun x p => Tri.pure p
theorem t_and {A B : Bool → Prop} (h : Tri (ca ρ) A) (h1 : A true → Tri (cb ρ) B) (h2 : A false → B false) : Tri (mAndT ca cb ρ) B := Tri.bind h fun x p => by
  cases x with
  | true => exact h1 p
  | false => exact Tri.pure (h2 p)
theorem t_or {A B : Bool → Prop} (h : Tri (ca ρ) A) (h1 : A true → B true) (h2 : A false → Tri (cb ρ) B) : Tri (mOrT ca cb ρ) B := Tri.bind h fun x p => by
  cases x with
  | true => exact Tri.pure (h1 p)
  | false => exact h2 p
theorem t_call {mf : List PyData → M PyData} (h : Tri (ms ρ) fun ds => ds.length = n ∧ Tri (mf ds) Q) : Tri (mCall n mf ms ρ) Q := Tri.bind h fun x p => Tri.bind (Tri.lft (P := (· = x)) (show lenI n x = some x from if_pos p.1) rfl) fun y e => by subst e; exact p.2
theorem t_callS {mf : List PyData → M PyData} (hs : ρ[i]? = some .src) (h : Tri (ms ρ) fun ds => ds.length = n ∧ Tri (mf ds) Q) : Tri (mCallS n i mf ms ρ) Q :=
  Tri.bind (Tri.lft (P := fun _ => True) (show srcAt ρ i = some () by unfold srcAt; rw [hs]) trivial) fun _ _ => Tri.bind h fun x p => Tri.bind (Tri.lft (P := (· = x)) (show lenI n x = some x from if_pos p.1) rfl) fun y e => by subst e; exact p.2
theorem t_forM {f : PyData → Ev → M Fl} {I : Ev → Prop} : ∀ (ds : List PyData) {ρ : Ev}, I ρ → (∀ d ∈ ds, ∀ ρ, I ρ → Tri (f d ρ) fun fl => ∃ ρ', fl = .nx ρ' ∧ I ρ') → Tri (forM ds f ρ) fun fl => ∃ ρ', fl = .nx ρ' ∧ I ρ'
  | [], ρ, h, _ => Tri.pure ⟨ρ, rfl, h⟩
  | d :: ds, ρ, h, hf => Tri.bind (hf d List.mem_cons_self ρ h) fun fl ⟨ρ', e, p⟩ => by
    subst e
    exact t_forM ds p fun x hx => hf x (List.mem_cons_of_mem _ hx)
theorem t_for {mi : Ev → M (List PyData)} {g : PyData → Ev → M Ev} {mb : Ev → M Fl} {I : Ev → Prop} {P : List PyData → Prop} (hi : Tri (mi ρ) P) (h0 : I ρ) (hf : ∀ ds, P ds → ∀ d ∈ ds, ∀ ρ, I ρ → Tri (g d ρ) fun ρ1 => Tri (mb ρ1) fun fl => ∃ ρ', fl = .nx ρ' ∧ I ρ') (hq : ∀ ρ', I ρ' → Qf (.nx ρ')) : Tri (mFor mi g mb ρ) Qf :=
  Tri.bind hi fun ds p => (t_forM ds h0 fun d hd ρ h => Tri.bind (hf ds p d hd ρ h) fun ρ1 h1 => h1).mono fun fl ⟨ρ', e, h⟩ => by subst e; exact hq ρ' h
theorem t_lcM {f : PyData → M (Option PyData)} {P : PyData → Prop} : ∀ (ds : List PyData), (∀ d ∈ ds, Tri (f d) fun o => ∃ x, o = some x ∧ P x) → Tri (lcM ds f) fun xs => xs.length = ds.length ∧ ∀ x ∈ xs, P x
  | [], _ => Tri.pure ⟨rfl, fun x h => nomatch h⟩
  | d :: ds, hf => Tri.bind (hf d List.mem_cons_self) fun o ⟨x, e, p⟩ => by
    subst e
    refine Tri.bind (t_lcM ds fun x hx => hf x (List.mem_cons_of_mem _ hx)) fun xs ⟨hl, hx⟩ => Tri.pure ⟨by rw [List.length_cons, List.length_cons, hl], fun y hy => ?_⟩
    rcases List.mem_cons.mp hy with rfl | hy
    · exact p
    · exact hx y hy
end
/-! ### the pick -/
def pickC : Ev → M Bool := mAndT (mAsB (mOp ltD (mSrcGet 0 "left") (mC (.int 2)))) (mAsB (mOp gtD (mLenC 2) (mC (.int 0))))
def pickB : Ev → M Fl := mSrcPut 0 "left" (mPopC 2)
theorem t_getL {ρ : Ev} {i : Nat} {P : PyData → Prop} (hs : ρ[i]? = some .src) (h : ∀ z : Int, 0 ≤ z → P (.int z)) : Tri (mSrcGet i "left" ρ) P := fun st ok => by
  have e : srcAt ρ i = some () := by unfold srcAt; rw [hs]
  refine ⟨.int st.left, st, ?_, ok, h _ ok.left⟩
  unfold mSrcGet
  rw [e]; rfl
theorem t_getX {ρ : Ev} {i : Nat} {P : PyData → Prop} {k : Str} (hs : ρ[i]? = some .src) (hk : k = "mixed" ∨ k = "turn") (h : ∀ z : Int, P (.int z)) : Tri (mSrcGet i k ρ) P := fun st ok => by
  have e : srcAt ρ i = some () := by unfold srcAt; rw [hs]
  rcases hk with rfl | rfl
  · refine ⟨.int st.mixed, st, ?_, ok, h _⟩
    unfold mSrcGet
    rw [e]; rfl
  · refine ⟨.int st.turn, st, ?_, ok, h _⟩
    unfold mSrcGet
    rw [e]; rfl
theorem t_putL {ρ : Ev} {i : Nat} {m : Ev → M PyData} {Qf : Fl → Prop} (hs : ρ[i]? = some .src) (h : Tri (m ρ) fun d => ∃ z : Int, d = .int z ∧ 0 ≤ z) (q : Qf (.nx ρ)) : Tri (mSrcPut i "left" m ρ) Qf := fun st ok => by
  have e : srcAt ρ i = some () := by unfold srcAt; rw [hs]
  obtain ⟨d, st1, e1, ok1, z, rfl, hz⟩ := h st ok
  refine ⟨.nx ρ, { st1 with left := z }, ?_, ⟨ok1.cells, ok1.len, hz⟩, q⟩
  have e2 : srcPut "left" z st1 = some { st1 with left := z } := by
    unfold srcPut
    rw [if_pos rfl, if_pos hz]
  unfold mSrcPut
  rw [e]
  show (m ρ st).bind _ = _
  rw [e1]
  show ((lft (srcPut "left" z st1) : M Pk) st1).bind _ = _
  rw [e2]; rfl
theorem t_putT {ρ : Ev} {i : Nat} {m : Ev → M PyData} {Qf : Fl → Prop} (hs : ρ[i]? = some .src) (h : Tri (m ρ) fun d => ∃ z : Int, d = .int z) (q : Qf (.nx ρ)) : Tri (mSrcPut i "turn" m ρ) Qf := fun st ok => by
  have e : srcAt ρ i = some () := by unfold srcAt; rw [hs]
  obtain ⟨d, st1, e1, ok1, z, rfl⟩ := h st ok
  refine ⟨.nx ρ, { st1 with turn := z }, ?_, ⟨ok1.cells, ok1.len, ok1.left⟩, q⟩
  have e2 : srcPut "turn" z st1 = some { st1 with turn := z } := rfl
  unfold mSrcPut
  rw [e]
  show (m ρ st).bind _ = _
  rw [e1]
  rfl
theorem drain_ok {ρ : Ev} (h0 : ρ[0]? = some .src) (h2 : ρ[2]? = some .scl) : ∀ (n : Nat) (st : Pk), st.ok → st.cells.length < n → ∃ st', whileM n pickC pickB ρ st = some (.nx ρ, st') ∧ st'.ok
  | 0, _, _, h => absurd h (Nat.not_lt_zero _)
  | n + 1, st, ok, hl => by
    have e0 : srcAt ρ 0 = some () := by unfold srcAt; rw [h0]
    have e2 : sclAt ρ 2 = some () := by unfold sclAt; rw [h2]
    have c1 : pickC ρ st = some (decide (st.left < 2) && decide (0 < (st.cells.length : Int)), st) := by
      unfold pickC mAndT
      have a1 : mAsB (mOp ltD (mSrcGet 0 "left") (mC (.int 2))) ρ st = some (decide (st.left < 2), st) := by
        unfold mAsB mOp mSrcGet
        rw [e0]; rfl
      have a2 : mAsB (mOp gtD (mLenC 2) (mC (.int 0))) ρ st = some (decide (0 < (st.cells.length : Int)), st) := by
        unfold mAsB mOp mLenC
        rw [e2]; rfl
      show (mAsB (mOp ltD (mSrcGet 0 "left") (mC (.int 2))) ρ st).bind _ = _
      rw [a1]
      by_cases h : st.left < 2
      · rw [decide_eq_true h]; exact a2
      · rw [decide_eq_false h]; rfl
    unfold whileM
    show ∃ st', (pickC ρ st).bind _ = _ ∧ _
    rw [c1]
    by_cases hc : (decide (st.left < 2) && decide (0 < (st.cells.length : Int))) = true
    · have hne : st.cells ≠ [] := by
        intro z
        rw [z] at hc
        simp at hc
      obtain ⟨c, hcl⟩ : ∃ c, st.cells.getLast? = some c := ⟨_, List.getLast?_eq_some_getLast hne⟩
      have hc0 : 0 ≤ c := ok.cells c (List.mem_of_getLast? hcl)
      have b1 : pickB ρ st = some (.nx ρ, { st with cells := st.cells.dropLast, left := c }) := by
        have p1 : mPopC 2 ρ st = some (.int c, { st with cells := st.cells.dropLast }) := by
          unfold mPopC
          rw [e2]
          show ((popS : M Int) st).bind _ = _
          rw [show (popS : M Int) st = some (c, { st with cells := st.cells.dropLast }) by show popD st = _; unfold popD; rw [hcl]]
          rfl
        unfold pickB mSrcPut
        rw [e0]
        show (mPopC 2 ρ st).bind _ = _
        rw [p1]
        show ((lft (srcPut "left" c { st with cells := st.cells.dropLast }) : M Pk) _).bind _ = _
        rw [show srcPut "left" c { st with cells := st.cells.dropLast } = some { st with cells := st.cells.dropLast, left := c } by unfold srcPut; rw [if_pos rfl, if_pos hc0]]
        rfl
      have ok' : ({ st with cells := st.cells.dropLast, left := c } : Pk).ok := ⟨fun z hz => ok.cells z (List.dropLast_subset _ hz), by show st.cells.dropLast.length ≤ 63; rw [List.length_dropLast]; have := ok.len; omega, hc0⟩
      obtain ⟨st2, e3, ok2⟩ := drain_ok h0 h2 n { st with cells := st.cells.dropLast, left := c } ok' (by
        show st.cells.dropLast.length < n
        rw [List.length_dropLast]
        have := List.length_pos_iff.mpr hne
        omega)
      refine ⟨st2, ?_, ok2⟩
      simp only [Option.bind_some, hc, if_true]
      show (pickB ρ st).bind _ = _
      rw [b1]
      exact e3
    · refine ⟨st, ?_, ok⟩
      simp only [Option.bind_some, hc]
      rfl
end DL
end

section
set_option Elab.async false
set_option linter.all false
set_option maxRecDepth 100000
set_option maxHeartbeats 4000000
/-! DL18: starred displays, ranges with a step down, count, bool, tuples repeated, extend by a tuple. -/
namespace DL
open PySem PySem.Spec PyProof.Rows L2
section
variable {X : Cx} {w : Bool} {e a b c : Expr} {es : List Expr} {m : Ev → M PyData} {pos : Pos} {tg : Expr}
/-- *e, .. -/
def mStar (m : Ev → M PyData) (ms : Ev → M (List PyData)) : Ev → M (List PyData) := fun ρ => do let d ← m ρ; let xs ← lft (seqD d); let ys ← ms ρ; pure (xs ++ ys)
theorem sa_star {p : Pos} {ms : Ev → M (List PyData)} (he : SB X e m) (hr : SA X es ms) (hs : starEach (.Starred e p :: es) X.env = (true, eval e X.env) :: starEach es X.env := by rfl) : SA X (.Starred e p :: es) (mStar m ms) := fun g H0 F0 =>
  (StX.pa_star (he g H0 F0) (hr g H0 F0) hs).imp fun σ H Q ⟨ρ, F, st, k, st', b, s, e, q⟩ => by
    obtain ⟨d, st1, e1, f1⟩ := bnd e
    obtain ⟨xs, st2, e2, f2⟩ := bnd f1
    obtain ⟨e3, rfl⟩ := lfts e2
    obtain ⟨ys, st3, e4, f3⟩ := bnd f2
    obtain ⟨rfl, rfl⟩ := purs f3
    refine ⟨ρ, F, st, d, st2, b, s, e1, fun v H1 F1 b1 r1 => ?_⟩
    cases d with
    | list ds =>
      cases e3
      obtain ⟨p, vs, rfl, h, r⟩ := r1.list b1.sub
      exact ⟨p, vs, rfl, .inr (SqL.of h), ρ, F1, st2, ys, st', b.trans b1, s.step b1.stp, e4, fun ws H2 F2 b2 r2 => q (vs ++ ws) H2 F2 (b1.trans b2) ((RpA.mono b2.stp.fr _ _ r).append r2)⟩
    | tuple ds =>
      cases e3
      obtain ⟨p, vs, rfl, _, h, r⟩ := r1.tuple b1.sub
      exact ⟨p, vs, rfl, .inl h, ρ, F1, st2, ys, st', b.trans b1, s.step b1.stp, e4, fun ws H2 F2 b2 r2 => q (vs ++ ws) H2 F2 (b1.trans b2) ((RpA.mono b2.stp.fr _ _ r).append r2)⟩
    | none => cases e3
    | bool _ => cases e3
    | int _ => cases e3
    | str _ => cases e3
    | dict _ => cases e3
/-- a range that goes down by one -/
def rngDn (lo : Int) (n : Nat) : List PyData := (List.range n).map fun i => .int (lo - (i : Nat))
theorem itc_ok {K : PySem.W.Frag} {lo : Int} {n : Nat} {R : Gh → Hp → Hp → Prop} : ItOk w K (Itc lo (-1) n) (rngDn lo n) R := fun i g H0 F0 H2 F2 st2 b2 p => by
  refine ⟨fun d hd => ?_, fun hl => (show n ≤ i by simpa [rngDn] using hl)⟩
  have hi : i < n := by simpa [rngDn] using (List.getElem?_eq_some_iff.mp hd).1
  refine ⟨hi, fun x H3 y => ?_⟩
  obtain ⟨rfl, rfl⟩ := y
  have e : d = .int (lo - i) := by simp [rngDn, hi] at hd; exact hd.symm
  subst e
  have e2 : lo + (i : Nat) * (-1) = lo - i := by omega
  rw [e2]
  exact ⟨F2, b2.base, .inl (.int _)⟩
def rng3D : List PyData → Option (List PyData)
  | [.int i, .int j, .int k] => if k = -1 ∧ -(2 ^ 62) ≤ i ∧ i < 2 ^ 62 ∧ -(2 ^ 62) ≤ j ∧ j < 2 ^ 62 then some (rngDn i (i - j).toNat) else none
  | _ => none
theorem rng3D_some {ds xs : List PyData} (h : rng3D ds = some xs) : ∃ i j : Int, ds = [.int i, .int j, .int (-1)] ∧ (-(2 ^ 62) ≤ i ∧ i < 2 ^ 62 ∧ -(2 ^ 62) ≤ j ∧ j < 2 ^ 62) ∧ xs = rngDn i (i - j).toNat := by
  unfold rng3D at h
  split at h
  · split at h
    · rename_i i j k hc
      obtain ⟨rfl, hc⟩ := hc
      cases h
      exact ⟨i, j, rfl, hc, rfl⟩
    · cases h
  · cases h
theorem si_range3 {p : Pos} {ms : Ev → M (List PyData)} (hm : X.mg "range" = none) (ha : SA X [a, b, c] ms) (hg : Gl X "range" := by rfl) (hs : starEach [a, b, c] X.env = (false, eval a X.env) :: starEach [b, c] X.env := by rfl) (hpl : (backTo pos (starEach [b, c] X.env)).any (·.1) = false := by rfl) :
    SI w X tg (.Call (.Name "range" p) [a, b, c] [] pos) (mRng rng3D ms) := fun g H0 F0 =>
  (pi_range3 hg hm (ha g H0 F0) hs hpl).imp fun σ H R ⟨ρ, F, st, ds, st', b, sl, e, q⟩ => by
  obtain ⟨d, st1, e1, e2⟩ := bnd e
  obtain ⟨e3, rfl⟩ := lfts e2
  refine ⟨ρ, F, st, d, st', b, sl, e1, fun vs H' F' b' r => ?_⟩
  obtain ⟨i, j, rfl, hc, rfl⟩ := rng3D_some e3
  cases r with
  | cons r1 r =>
    cases r with
    | cons r2 r =>
      cases r with
      | cons r3 r =>
        cases r
        cases r1
        cases r2
        cases r3
        exact ⟨i, j, -1, _, rfl, RgC.neg hc.1 hc.2.1 hc.2.2.1 hc.2.2.2, q _ H' F' b' itc_ok⟩
/-- xs.count(k) of a list of whole numbers -/
def countD : PyData → PyData → Option PyData
  | .list ds, .int k => (intsOf ds).map fun ns => .int (ns.count k : Nat)
  | _, _ => none
def boolD : List PyData → Option PyData
  | [.int i] => some (.bool (i != 0))
  | [.bool b] => some (.bool b)
  | _ => none
theorem cd_bool : CallD X (.type "bool") boolD := call_bool1.imp fun xs H Q ⟨g, F, st, ds, r, b, rs, h, q⟩ => by
  unfold boolD at h
  split at h
  · cases h
    obtain ⟨v, rfl, r1⟩ := rs.one
    cases r1.int
    exact .inl ⟨_, rfl, q _ H F b (.bl _)⟩
  · cases h
    obtain ⟨v, rfl, r1⟩ := rs.one
    cases r1.bool
    exact .inr ⟨_, rfl, q _ H F b (.bl _)⟩
  · cases h
/-! a tuple repeated -/
def rRepZ (K : PySem.W.Frag) : R2 := fun x y H Q => ∃ l k xs, x = .ref l ∧ y = .int k ∧ SqT K H l xs ∧ xs ≠ [] ∧ 2 ≤ k ∧ k ≤ 1000 ∧ xs.length ≤ 1000 ∧ ∀ p o, H p = none → o.dict = none → Q (.ref p) (upd H p (.frz o (.tup (List.replicate k.toNat xs).flatten)))
theorem op_repZ : OpR X (binaryOp .Mult) (rRepZ X.K) := by
  intro pins s σ H x y v u Q I rx ry h
  obtain ⟨l, k, xs, rfl, rfl, hT, hne, h1, h2, hz, q⟩ := h
  cases rx
  obtain ⟨t, rfl⟩ := ry
  obtain ⟨its, r, ⟨⟨cls, dd, data, sl⟩, ho, hc, n, hd⟩, hs⟩ := I.tuple hT
  simp only at hc hd
  subst hc hd
  have hle : its.length = xs.length := r.length.symm
  have hn : its ≠ [] := fun e => hne (by
    rw [e] at hle
    exact List.eq_nil_of_length_eq_zero hle.symm)
  have hi : its.toArray.isEmpty = false := by
    cases its with
    | nil => exact absurd rfl hn
    | cons a b => rfl
  have hsz0 : its.toArray.size = xs.length := by rw [List.size_toArray, hle]
  have hm : ((its.toArray.size : Nat) : Int) * k ≤ 1000000 := by
    rw [hsz0]
    have a1 : ((xs.length : Nat) : Int) * k ≤ 1000 * k := Int.mul_le_mul_of_nonneg_right (by omega) (by omega)
    omega
  have flen : (List.replicate k.toNat its).flatten.length ≤ sizeLine := by
    rw [PyProof.Rows.lm_len_rep_flat, hle, sizeLine_eq]
    have a1 : k.toNat * xs.length ≤ 1000 * 1000 := Nat.mul_le_mul (by omega) hz
    omega
  have c0 : (decide (k < -(2 ^ 63)) || decide (k ≥ 2 ^ 63)) = false := by
    rw [decide_eq_false (by omega), decide_eq_false (by omega)] <;> rfl
  have c1 : (its.toArray.isEmpty || k == 1) = false := by
    rw [hi, Bool.false_or]
    exact beq_eq_false_iff_ne.mpr (by omega)
  have c2 : (decide (k ≤ 0) || its.toArray.isEmpty) = false := by
    rw [hi, Bool.or_false]
    exact decide_eq_false (by omega)
  have c4 : Builtin.Tuple.tupleTooMany (((its.toArray.size : Nat) : Int) * k) = false := by
    unfold Builtin.Tuple.tupleTooMany
    rw [sizeLine_eq]
    exact decide_eq_false (by omega)
  refine wpAny_binaryOp_repeat_ref (T := "tuple") (U := "int") (by decide) ⟨_, ho, rfl⟩ (fun s' => typeIs_int s' k t) noFill_tuple_mul PySem.F.fills_int_mul PySem.F.slot_int_rmul repeat_tuple PySem.F.slot_int_index.lookup
    (call_meets PySem.F.slot_int_rmul (typeIs_int s k t) PySem.F.entry_int_rmul (PySem.F.args_int_rmul_2 _ _) (int_rmul_tuple k t l its.toArray n dd sl)
      ⟨ho, rfl, ⟨_, ho, rfl⟩, call_meets PySem.F.slot_tuple_mul ⟨_, ho, rfl⟩ PySem.F.entry_tuple_mul (PySem.F.args_tuple_mul_2 _ _) (tuple_mulW l its.toArray n dd sl k t c0 c1 c2 (by omega) c4 (by rw [size_rep, List.size_toArray]; exact flen)) ⟨ho, ?_⟩⟩)
  rw [size_rep]
  refine ⟨.ref s.heap.objs.size, _, I.laid (t' := s.toks) (o := .frz _ (.tup (List.replicate k.toNat xs).flatten)) (fun b ob q => Heap.get?_push_of_some _ q) (Nat.le_refl _) ⟨Heap.get?_push_size _ rfl, ?_⟩, rfl, q _ _ (I.hok.fresh (Nat.le_refl _)) rfl⟩
  exact ⟨by rw [PyProof.Rows.lm_len_rep_flat, sizeLine_eq]; have a1 : k.toNat * xs.length ≤ 1000 * 1000 := Nat.mul_le_mul (by omega) hz; omega, _, r.rep k.toNat, IsTup.new _ _⟩
def mulTD : PyData → PyData → Option PyData
  | .tuple xs, .int k => if xs ≠ [] ∧ 2 ≤ k ∧ k ≤ 1000 ∧ xs.length ≤ 1000 then some (.tuple (List.replicate k.toNat xs).flatten) else none
  | _, _ => none
theorem opd_mulT : OpD X (binaryOp .Mult) mulTD := op_repZ.imp fun x y H Q ⟨g, F, st, d, e, r, b, r1, r2, h, q⟩ => by
  unfold mulTD at h
  split at h
  · split at h
    · rename_i xs k hc
      cases h
      obtain ⟨a, vs, rfl, h0, h2, h3⟩ := r1.tuple b.sub
      cases r2.int
      obtain ⟨c0, c1, c2, c3⟩ := hc
      refine ⟨a, k, vs, rfl, rfl, h2, fun e => c0 ?_, c1, c2, by rw [h3.length]; exact c3, fun p o hp ho => let ⟨b3, r3⟩ := b.tupNew hp ho (h3.rep k.toNat); q _ _ _ b3 r3⟩
      subst e
      cases h3; rfl
    · cases h
  · cases h
/-! extend by a tuple -/
open PySem.AutoSeq1 in
theorem ext_tup (l : Addr) (items : Array Value) (n : Nat) (b : Addr) (items2 : Array Value) (n2 : Nat) (dd : Option Addr) (sl : Array (Option Value)) (hs0 : ¬(!items.isEmpty && Builtin.List.listTooLong (items.size + items2.size)) = true) (hs1 : items.size ≤ sizeLine) (hs2 : items.size + items2.size ≤ sizeLine + 1 := by seq_fits) :
    Meets (Builtin.«list.extend» ⟨[.ref l, .ref b], []⟩) (fun _ R s => s.heap.get? l = some { cls := .type "list", dict := none, data := .seq items n, slots := #[] } ∧ s.heap.get? b = some { cls := .type "tuple", dict := dd, data := .seq items2 n2, slots := sl } ∧ R (.ok (.ret Value.none)) { s with heap := s.heap.update l (Obj.mapSeq fun x => x ++ items2), toks := s.toks }) :=
  .of_wp fun prog w A R s h => by
    obtain ⟨hp, g, d, tk, os⟩ := s; obtain ⟨hl, hb, h⟩ := h; have f1 := AutoSeq1.idx_int; have f2 := AutoSeq1.sub_tuple_tuple; have f3 := AutoSeq1.sub_list_list; have f4 := AutoSeq1.sub_tuple_list; have f5 := AutoSeq1.sub_list_tuple
    have hz' : (items ++ items2).size ≤ sizeLine + 1 := by rw [Array.size_append]; exact hs2
    wp_walk using (wpAny_updateSeq hl rfl (hz := hs1) (_hz' := hz')), wpAny_loadPart' hl, wpAny_loadPart' hb; exact ⟨_, rfl, h⟩
def rExt2 (K : PySem.W.Frag) : V → List V → Hp → VK → Prop := fun x vs H Q => ∃ l b xs zs, x = .ref l ∧ vs = [.ref b] ∧ H l = some (.lst xs) ∧ (H b = some (.lst zs) ∨ SqT K H b zs) ∧ xs.length + zs.length ≤ sizeLine ∧ Q .non (upd H l (.lst (xs ++ zs)))
theorem mt_ext2 : MtM X "list.extend" (rExt2 X.K) := by
  intro pins s σ H x vs v us Q I rx rv h
  obtain ⟨l, b, xs, zs, rfl, rfl, hH, hB, hz, q⟩ := h
  rcases hB with hB | hB
  · exact mt_extend pins s σ H _ _ v us Q I rx rv ⟨l, b, xs, zs, rfl, rfl, hH, hB, hz, q⟩
  cases rx
  obtain ⟨u, rfl, ru⟩ := rv.one
  cases ru
  obtain ⟨z, its, n, r, hl, e⟩ := I.lstM hH
  obtain ⟨its2, r2, ⟨⟨cls, dd, data, sl⟩, ho, hc, n2, hd⟩, hs⟩ := I.tuple hB
  simp only at hc hd
  subst hc hd
  have hsz : its.toArray.size + its2.toArray.size ≤ sizeLine := by rw [List.size_toArray, List.size_toArray, ← r.length, ← r2.length]; exact hz
  have hlong : ¬ (!its.toArray.isEmpty && Builtin.List.listTooLong (its.toArray.size + its2.toArray.size)) = true := by
    rw [notLongL hsz, Bool.and_false]
    exact Bool.false_ne_true
  refine call_meets PySem.F.slot_list_extend ⟨_, e, rfl⟩ PySem.F.entry_list_extend (PySem.F.args_list_extend_2 _ _)
    (ext_tup l its.toArray n b its2.toArray n2 dd sl hlong (by omega) (by omega)) ⟨e, ho, ?_⟩
  refine ⟨.non, _, I.lset (its' := its ++ its2) hH e (by simp) (r.append r2) ?_, rfl, q⟩
  rw [List.length_append]
  omega
def extD2 : List PyData → PyData → Option (List PyData)
  | ds, .list es => szI (ds.length + es.length) (ds ++ es)
  | ds, .tuple es => szI (ds.length + es.length) (ds ++ es)
  | _, _ => none
def mExt2 (i : Nat) (m : Ev → M PyData) : Ev → M Fl := fun ρ => do
  let ds ← lft (olAt ρ i)
  let d ← m ρ
  let ds ← lft (extD2 ds d)
  pure (.nx (ρ.set i (.ol ds)))
theorem ss_ext2 {i : Nat} {x : Str} {xp apos cpos : Pos} (he : SB X e m) (hv : PE X (.Name x xp) (tVar i)) (hs : swapsWith (.Call (.Attribute (.Name x xp) "extend" apos) [e] [] cpos) none pos.line X.env = pure false := by rfl)
    (hbase : attributeBase (.Name x xp) "extend" X.env (eval (.Name x xp) X.env) = eval (.Name x xp) X.env := by rfl)
    (hfew : ((backTo cpos (starEach [e] X.env)).all (fun x => !x.1) && (backToKw cpos (keywordEach [] X.env)).all (fun x => x.1.isSome)
      && decide (([e] : List Expr).length + ([] : List Keyword).length + (if ([] : List Keyword).isEmpty then 0 else 1) < 30)) = true := by rfl)
    (hline : (apos.endLine == cpos.line) = true := by rfl) (hst : starEach [e] X.env = (false, eval e X.env) :: starEach [] X.env := by rfl) (hplain : (backTo cpos (starEach [] X.env)).any (·.1) = false := by rfl) :
    SS X (.Expr (.Call (.Attribute (.Name x xp) "extend" apos) [e] [] cpos) pos) (mExt2 i m) := fun g H0 F0 =>
  (ps_expr (pe_bm PySem.F.plainAttrs_list PySem.F.slot_list_extend PySem.F.type_list_extend mt_ext2 hv (pa_cons (he g H0 F0) pa_nil hst) hbase hfew hline hst hplain) hs).imp fun D σ H ⟨ρ, F, st, fl, st', b, sl, e, q⟩ => by
  obtain ⟨ds, st1, e1, f1⟩ := bnd e
  obtain ⟨e2, rfl⟩ := lfts e1
  obtain ⟨d, st2, e3, f2⟩ := bnd f1
  obtain ⟨ds2, st3, e4, f3⟩ := bnd f2
  obtain ⟨e5, rfl⟩ := lfts e4
  obtain ⟨rfl, rfl⟩ := purs f3
  have hρ := olAt_some e2
  obtain ⟨y, hσ, a, vs, rfl, h, n, n1, n2, n3, r⟩ := sl.get hρ
  have key : ∀ es, extD2 ds d = szI (ds.length + es.length) (ds ++ es) → (∀ w H' F', Bs g H F H' F' st' → RpB X.K g H' F' w d → ∃ c zs, w = .ref c ∧ (H' c = some (.lst zs) ∨ SqT X.K H' c zs) ∧ RpA X.K F' zs es) → tBM X.K "list" (rExt2 X.K) (tVar i) (fun σ H Q => tB X.K g H0 F0 m σ H fun v H' => Q [v] H') σ H fun _ H' => D.nx σ H' := fun es he hw => by
    rw [he] at e5
    obtain ⟨rfl, hz⟩ := szI_some e5
    refine ⟨_, hσ, .inl ⟨rfl, vs, SqL.of h⟩, ρ, F, st1, _, st', b, sl, e3, fun w H' F' b' rw' => ?_⟩
    have h' := b'.stp.kp _ _ h n1 n2
    have n' := b'.stp.own n h
    obtain ⟨c, zs, rfl, hc, rc⟩ := hw w H' F' b' rw'
    refine ⟨a, c, vs, zs, rfl, rfl, h', hc, Nat.le_of_lt (line6 (by rw [r.length, rc.length]; exact hz)), ?_⟩
    exact q σ _ F' ((b.trans b').updO n3 n' n1 n2) b'.stp.fr ((sl.step b'.stp).updO hρ rfl hσ ⟨a, _, rfl, upd_same, n', n1, n2, n3, (RpA.mono b'.stp.fr _ _ r).append rc⟩)
  cases d with
  | list es => exact key es rfl fun w H' F' b' rw' => let ⟨c, zs, e1, h1, h2⟩ := rw'.list b'.sub; ⟨c, zs, e1, .inl h1, h2⟩
  | tuple es => exact key es rfl fun w H' F' b' rw' => let ⟨c, zs, e1, _, h1, h2⟩ := rw'.tuple b'.sub; ⟨c, zs, e1, .inr h1, h2⟩
  | none => cases e5
  | bool _ => cases e5
  | int _ => cases e5
  | str _ => cases e5
  | dict _ => cases e5
/-! count -/
theorem se_lcount {o : Expr} {ma mb : Ev → M PyData} {apos cpos : Pos} (ho : SB X o ma) (he : SE X e mb) (hbase : attributeBase o "count" X.env (eval o X.env) = eval o X.env := by rfl)
    (hfew : ((backTo cpos (starEach [e] X.env)).all (fun x => !x.1) && (backToKw cpos (keywordEach [] X.env)).all (fun x => x.1.isSome)
      && decide (([e] : List Expr).length + ([] : List Keyword).length + (if ([] : List Keyword).isEmpty then 0 else 1) < 30)) = true := by rfl)
    (hline : (apos.endLine == cpos.line) = true := by rfl) (hst : starEach [e] X.env = (false, eval e X.env) :: starEach [] X.env := by rfl) (hplain : (backTo cpos (starEach [] X.env)).any (·.1) = false := by rfl) :
    SE X (.Call (.Attribute o "count" apos) [e] [] cpos) (mOp countD ma mb) := fun g H0 F0 =>
  (pe_bm PySem.F.plainAttrs_list PySem.F.slot_list_count PySem.F.type_list_count mt_lcount (ho g H0 F0) (pa_cons (he g H0 F0) pa_nil hst) hbase hfew hline hst hplain).imp fun σ H Q ⟨ρ, F, st, d, st', b, sl, e, q⟩ => by
  obtain ⟨x, st1, e1, f1⟩ := bnd e
  obtain ⟨y, st2, e2, f2⟩ := bnd f1
  obtain ⟨e3, rfl⟩ := lfts f2
  cases x with
  | list ds =>
    cases y with
    | int k =>
      obtain ⟨ns, e4, rfl⟩ := Option.map_eq_some_iff.mp (show (intsOf ds).map (fun ns => PyData.int (ns.count k : Nat)) = some d from e3)
      cases intsOf_some e4
      refine ⟨ρ, F, st, _, st1, b, sl, e1, fun v H1 F1 b1 r1 => ?_⟩
      obtain ⟨a, vs, rfl, h, r⟩ := r1.list b1.sub
      cases r.of_ints
      refine ⟨.inl ⟨rfl, _, SqL.of h⟩, ρ, F1, st1, _, st', b.trans b1, sl.step b1.stp, e2, fun v2 H2 F2 b2 r2 => ?_⟩
      cases r2
      obtain ⟨a2, vs2, e5, h2, r3⟩ := (r1.step b2.stp).list b2.sub
      cases e5
      cases r3.of_ints
      exact ⟨a, ns, k, rfl, rfl, SqL.of h2, q _ H2 F2 (b1.trans b2) (.int _)⟩
    | _ => cases e3
  | _ => cases e3
end
end DL
end

section
set_option Elab.async false
set_option linter.all false
set_option maxRecDepth 100000
set_option maxHeartbeats 4000000
/-! DL19: is and is not of bools, chains of comparisons. -/
namespace DL
open PySem PySem.Spec PyProof.Rows L2
section
variable {X : Cx} {a b c : Expr} {ma mb mc : Ev → M PyData} {pos : Pos}
def isBD : PyData → PyData → Option PyData
  | .bool x, .bool y => some (.bool (decide (x = y)))
  | _, _ => none
def notBD : PyData → PyData → Option PyData
  | .bool x, .bool y => some (.bool (!decide (x = y)))
  | _, _ => none
theorem opd_is : OpD X (compareOp .Is) isBD := op_isBl.imp fun x y H Q ⟨g, F, st, d, e, r, b, r1, r2, h, q⟩ => by
  unfold isBD at h
  split at h
  · cases h; cases r1.bool; cases r2.bool; exact ⟨_, _, rfl, rfl, q _ H F b (.bl _)⟩
  · cases h
theorem opd_isnot : OpD X (compareOp .IsNot) notBD := op_notBl.imp fun x y H Q ⟨g, F, st, d, e, r, b, r1, r2, h, q⟩ => by
  unfold notBD at h
  split at h
  · cases h; cases r1.bool; cases r2.bool; exact ⟨_, _, rfl, rfl, q _ H F b (.bl _)⟩
  · cases h
theorem chain_run {op op' : CmpOp} {φ ψ : PyData → PyData → Option PyData} (ha : SB X a ma) (hb : SB X b mb) (hc : SB X c mc) (g : Gh) (H0 F0 : Hp) {σ : L2.St} {H : Hp} {Q : VK} (h : tE X.K g H0 F0 (mChain φ ψ ma mb mc) σ H Q) :
    tChain (rD X.K φ) (rD X.K ψ) (tB X.K g H0 F0 ma) (tB X.K g H0 F0 mb) (tB X.K g H0 F0 mc) σ H Q := by
  obtain ⟨ρ, F, st, d, st', b, s, e, q⟩ := h
  obtain ⟨x, st1, e1, f1⟩ := bnd e
  obtain ⟨y, st2, e2, f2⟩ := bnd f1
  obtain ⟨z, st3, e3, f3⟩ := bnd f2
  obtain ⟨e33, rfl⟩ := lfts e3
  obtain ⟨k, st4, e4, f4⟩ := bnd f3
  obtain ⟨e44, rfl⟩ := lfts e4
  cases asB_some e44
  refine ⟨ρ, F, st, x, st1, b, s, e1, fun v H1 F1 b1 r1 => ⟨ρ, F1, st1, y, st4, b.trans b1, s.step b1.stp, e2, fun u H2 F2 b2 r2 => ⟨g, F2, st4, x, y, _, b2.base, r1.step b2.stp, r2, e33, fun w H3 F3 b3 r3 => ?_⟩⟩⟩
  cases r3
  refine ⟨k, rfl, ?_⟩
  cases k with
  | false =>
    obtain ⟨rfl, rfl⟩ := purs f4
    exact q _ H3 F3 ((b1.trans b2).trans b3) (.bl _)
  | true =>
    obtain ⟨w, st5, e5, f5⟩ := bnd (show ((mc ρ >>= fun w => lft (ψ y w)) : M PyData) st4 = some (d, st') from f4)
    obtain ⟨e6, rfl⟩ := lfts f5
    exact ⟨ρ, F3, st4, w, st', (b.trans b1).trans (b2.trans b3), (s.step b1.stp).step (b2.trans b3).stp, e5, fun w' H4 F4 b4 r4 => ⟨g, F4, st', y, w, d, b4.base, (r2.step b3.stp).step b4.stp, r4, e6, fun u5 H5 F5 b5 r5 => q u5 H5 F5 (((b1.trans b2).trans b3).trans (b4.trans b5)) r5⟩⟩
theorem se_chain {op op' : CmpOp} {φ ψ : PyData → PyData → Option PyData} (ho : OpD X (compareOp op) φ) (ho' : OpD X (compareOp op') ψ) (ha : SB X a ma) (hb : SB X b mb) (hc : SB X c mc)
    (hm : lastMarks [op, op'] [b, c] = false := by with_unfolding_all rfl) : SE X (.Compare a [op, op'] [b, c] pos) (mChain φ ψ ma mb mc) := fun g H0 F0 =>
  (pe_chain ho ho' (ha g H0 F0) (hb g H0 F0) (hc g H0 F0) hm).imp fun σ H Q h => chain_run (op := op) (op' := op') ha hb hc g H0 F0 h
theorem st_chain {op op' : CmpOp} {φ ψ : PyData → PyData → Option PyData} (ho : OpD X (compareOp op) φ) (ho' : OpD X (compareOp op') ψ) (ha : SB X a ma) (hb : SB X b mb) (hc : SB X c mc)
    (hm : lastMarks [op, op'] [b, c] = false := by with_unfolding_all rfl) : STs X (.Compare a [op, op'] [b, c] pos) (mAsB (mChain φ ψ ma mb mc)) := fun g H0 F0 =>
  (pt_chain ho ho' (ha g H0 F0) (hb g H0 F0) (hc g H0 F0) hm).imp fun σ H Q ⟨ρ, F, st, k, st', b, s, e, q⟩ => by
  obtain ⟨d, st1, e1, f1⟩ := bnd e
  obtain ⟨e2, rfl⟩ := lfts f1
  cases asB_some e2
  refine chain_run (op := op) (op' := op') ha hb hc g H0 F0 ⟨ρ, F, st, _, st', b, s, e1, fun v H' F' b' r => ?_⟩
  cases r
  exact ⟨_, rfl, q H' F' b'⟩
end
end DL
end

section
set_option Elab.async false
set_option linter.all false
set_option maxRecDepth 100000
set_option maxHeartbeats 4000000
/-! DL20: loops whose body stores names alone (what is walked may be a list of the frame's own); enumerate. -/
namespace DL
open PySem PySem.Spec PyProof.Rows L2
section
variable {X : Cx} {w : Bool} {ws : List Nat} {e a tg : Expr} {m : Ev → M PyData} {pos : Pos} {s : Stmt} {rest body : List Stmt} {m1 m2 : Ev → M Fl}
/-- a statement that changes no object -/
def tSp (K : PySem.W.Frag) (g : Gh) (H0 F0 : Hp) (m : Ev → M Fl) : TS := fun D σ H => ∃ ρ F st ρ' st', Bs g H0 F0 H F st ∧ Slots K g H0 H F σ ρ ∧ m ρ st = some (.nx ρ', st') ∧ ∀ σ' H' F', Bs g H0 F0 H' F' st' → Stp g H F H' F' → Slots K g H0 H' F' σ' ρ' → D.nx σ' H'
def SSp (X : Cx) (s : Stmt) (m : Ev → M Fl) : Prop := ∀ g H0 F0, PS X s (tSp X.K g H0 F0 m)
def SSsp (X : Cx) (s : List Stmt) (m : Ev → M Fl) : Prop := ∀ g H0 F0, PSs X s (tSp X.K g H0 F0 m)
theorem sp_set {i : Nat} {x : Str} {pos' : Pos} (hN : X.N.Nodup) (he : SE X e m) (hi : X.N[i]? = some x := by rfl) (hx : Loc X.env.scope x := by first | exact Or.inl rfl | exact Or.inr rfl) (hs : swapsWith e (some (.Name x pos')) pos.line X.env = pure false := by rfl)
    (hf : X.fn x = true ∨ X.env.scope.names.lookup x = some .local := by first | exact .inl rfl | exact .inr rfl) : SSp X (.Assign [.Name x pos'] e pos) (mSet i m) := fun g H0 F0 => (ps_set hN hi hx (he g H0 F0) hs hf).imp fun D σ H ⟨ρ, F, st, ρ', st', b, sl, e, q⟩ => by
  obtain ⟨d, st1, e1, e2⟩ := bnd e
  obtain ⟨e3, rfl⟩ := purs e2
  cases e3
  exact ⟨ρ, F, st, d, st', b, sl, e1, fun v H' F' b' r => q _ H' F' (b.trans b') b'.stp ((sl.step b'.stp).put ⟨v, rfl, r⟩ rfl)⟩
theorem ssp_one (h : SSp X s m1) : SSsp X [s] m1 := fun g H0 F0 => pss_one (h g H0 F0)
theorem ssp_cons (h1 : SSp X s m1) (h2 : SSsp X rest m2) : SSsp X (s :: rest) (mSeq m1 m2) := fun g H0 F0 => (pss_cons (h1 g H0 F0) (h2 g H0 F0)).imp fun D σ H ⟨ρ, F, st, ρ', st', b, sl, e, q⟩ => by
  obtain ⟨fl1, st1, e1, e2⟩ := bnd e
  cases fl1 with
  | nx ρ1 => exact ⟨ρ, F, st, ρ1, st1, b, sl, e1, fun σ1 H1 F1 b1 p1 s1 => ⟨ρ1, F1, st1, ρ', st', b1, s1, e2, fun σ2 H2 F2 b2 p2 s2 => q σ2 H2 F2 b2 (p1.trans p2) s2⟩⟩
  | rt d => obtain ⟨e3, _⟩ := purs e2; cases e3
  | bk _ => obtain ⟨e3, _⟩ := purs e2; cases e3
  | ct _ => obtain ⟨e3, _⟩ := purs e2; cases e3
def forJ : List PyData → (PyData → Ev → M Fl) → Ev → M Fl
  | [], _, ρ => pure (.nx ρ)
  | d :: ds, f, ρ => do
    match ← f d ρ with
    | .nx ρ' => forJ ds f ρ'
    | _ => lft none
def mForJ (mi : Ev → M (List PyData)) (g : PyData → Ev → M Ev) (mb : Ev → M Fl) : Ev → M Fl := fun ρ => do let ds ← mi ρ; forJ ds (fun d ρ => do let ρ' ← g d ρ; mb ρ') ρ
theorem ss_forJ {mi : Ev → M (List PyData)} {mg : PyData → Ev → M Ev} (hp : PassesOwn (model X.prog X.w) X.A X.env X.xe) (hc : X.calm = true) (hi : SJ w X tg e mi) (hg : SG w X ws tg mg) (hb : SSsp X body m1)
    (hs : ∀ x, foldedSetIterable e X.env x = pure x := by intro _; rfl) : SS X (.For tg e body [] pos) (mForJ mi mg m1) := fun g H0 F0 => (ps_for hp hc (hi g H0 F0) (hg g H0 F0) (hb g H0 F0) hs).imp fun D σ H ⟨ρ, F, st, fl, st', b, sl, e, q⟩ => by
  obtain ⟨ds, st1, e1, e2⟩ := bnd e
  refine ⟨ρ, F, st, ds, st1, b, sl, e1, fun J H1 F1 b1 ok => ?_⟩
  refine ⟨fun i k σ H => k = ds.length - i ∧ ∃ ρ F2 st, Bs g H0 F0 H F2 st ∧ Stp g H1 F1 H F2 ∧ Slots X.K g H0 H F2 σ ρ ∧ forJ (ds.drop i) (fun d ρ => do let ρ' ← mg d ρ; m1 ρ') ρ st = some (fl, st'),
    ⟨ds.length, by simp, ρ, F1, st1, b.trans b1, .refl _ _ _, sl.step b1.stp, by rw [List.drop_zero]; exact e2⟩, ?_⟩
  rintro i k σ2 H2 ⟨rfl, ρ2, F2, st2, b2, p2, s2, e3⟩
  obtain ⟨go, stop⟩ := ok i g H0 F0 H2 F2 st2 b2 ⟨rfl, p2⟩
  by_cases hl : i < ds.length
  · have hd : ds[i]? = some ds[i] := List.getElem?_eq_getElem hl
    rw [List.drop_eq_getElem_cons hl] at e3
    obtain ⟨fl1, st3, e4, e5⟩ := bnd e3
    obtain ⟨ρ3, st4, e6, e7⟩ := bnd e4
    obtain ⟨hgo, hy⟩ := go _ hd
    cases fl1 with
    | nx ρ' =>
      refine .inr ⟨hgo, fun σ' H' => ∃ ρ' F' st, Bs g H0 F0 H' F' st ∧ Stp g H1 F1 H' F' ∧ Slots X.K g H0 H' F' σ' ρ' ∧ forJ (ds.drop (i + 1)) (fun d ρ => do let ρ' ← mg d ρ; m1 ρ') ρ' st = some (fl, st'), fun σ' H' h => ⟨ds.length - (i + 1), by omega, rfl, h⟩, fun x H3 y => ?_⟩
      obtain ⟨F3, b3, r3⟩ := hy x H3 y
      exact ⟨ρ2, F3, st2, _, ρ3, st4, b2.trans b3, s2.step b3.stp, r3, e6, fun σ4 H4 F4 b4 s4 _ => ⟨ρ3, F4, st4, ρ', st3, (b2.trans b3).trans b4, s4, e7, fun σ' H' F' b' p' s' => ⟨ρ', F', st3, b', (p2.trans (b3.stp.trans b4.stp)).trans p', s', e5⟩⟩⟩
    | rt d => cases e5
    | bk _ => cases e5
    | ct _ => cases e5
  · rw [List.drop_of_length_le (by omega)] at e3
    obtain ⟨rfl, rfl⟩ := purs e3
    exact .inl ⟨stop (by omega), q σ2 H2 F2 b2 (b1.stp.fr.trans p2.fr) s2⟩
/-! enumerate -/
def enumF : Nat → List PyData → List PyData
  | _, [] => []
  | k, d :: ds => .tuple [.int (k : Nat), d] :: enumF (k + 1) ds
theorem enumF_get : ∀ {ds : List PyData} {k i : Nat} {d : PyData}, (enumF k ds)[i]? = some d → ∃ x, ds[i]? = some x ∧ d = .tuple [.int ((k + i : Nat) : Int), x]
  | [], _, _, _, h => by simp [enumF] at h
  | x :: ds, k, 0, d, h => by
    have h' : some (PyData.tuple [.int (k : Nat), x]) = some d := by simpa [enumF] using h
    cases h'
    exact ⟨x, rfl, rfl⟩
  | x :: ds, k, i + 1, d, h => by
    obtain ⟨y, h1, h2⟩ := enumF_get (ds := ds) (k := k + 1) (i := i) (d := d) (by simpa [enumF] using h)
    exact ⟨y, by simpa using h1, by rw [h2, show k + 1 + i = k + (i + 1) by omega]⟩
theorem enumF_len : ∀ (ds : List PyData) (k : Nat), (enumF k ds).length = ds.length
  | [], _ => rfl
  | _ :: ds, k => by show (enumF (k + 1) ds).length + 1 = ds.length + 1; rw [enumF_len ds]
theorem ite_ok {K : PySem.W.Frag} {a : Addr} {vs : List V} {ds : List PyData} {R : Gh → Hp → Hp → Prop} (h : ∀ g H F, R g H F → Same F H → H a = some (.lst vs) ∧ RpA K F vs ds) : ItOk true K (Ite K a) (enumF 0 ds) R := fun i g H0 F0 H2 F2 st2 b2 p => by
  obtain ⟨h1, h2⟩ := h g H2 F2 p b2.sub
  refine ⟨fun d hd => ?_, fun hl => ⟨vs, SqL.of h1, by rw [enumF_len] at hl; rw [h2.length]; exact hl⟩⟩
  obtain ⟨x, ex, rfl⟩ := enumF_get hd
  obtain ⟨v, e1, r1⟩ := h2.get ex
  refine ⟨⟨vs, v, SqL.of h1, e1⟩, fun z H3 ⟨T, v', ez, hT, eH, y1⟩ => ?_⟩
  have q1 := y1 vs (SqL.of h1)
  rw [e1] at q1; cases q1
  subst ez
  subst eH
  rw [Nat.zero_add]
  exact ⟨_, b2.base.newF hT, .inr ⟨rfl, T, _, _, rfl, rfl, upd_same, RpA.mono (Same.updN (noneF b2 hT)) _ _ (.cons (.int _) (.cons r1 .nil))⟩⟩
def listD : PyData → Option (List PyData)
  | .list ds => some ds
  | _ => none
def mEnum (m : Ev → M PyData) : Ev → M (List PyData) := fun ρ => do let d ← m ρ; let ds ← lft (listD d); pure (enumF 0 ds)
/-- enumerate of a list that may be the frame's own -/
theorem sj_enum {p tpos : Pos} {elts : List Expr} {kk : Nat} (hm : X.mg "enumerate" = none) (ha : SB X a m) (hg : Gl X "enumerate" := by rfl) (hs : starEach [a] X.env = (false, eval a X.env) :: starEach [] X.env := by rfl) :
    SJ true X (.Tuple elts kk tpos) (.Call (.Name "enumerate" p) [a] [] pos) (mEnum m) := fun g H0 F0 => (pi_enum hg hm (pa_cons (ha g H0 F0) pa_nil hs) hs).imp fun σ H R ⟨ρ, F, st, ds, st', b, sl, e, q⟩ => by
  obtain ⟨d, st1, e1, f1⟩ := bnd e
  obtain ⟨xs, st2, e2, f2⟩ := bnd f1
  obtain ⟨e3, rfl⟩ := lfts e2
  obtain ⟨rfl, rfl⟩ := purs f2
  cases d with
  | list ds' =>
    cases e3
    refine ⟨ρ, F, st, _, st', b, sl, e1, fun v H1 F1 b1 r1 => ?_⟩
    rcases r1 with r1 | ⟨c, vs, ds', rfl, e2, h, n, n1, n2, r⟩ | ⟨_, _, _, _, e2, _⟩
    · cases r1 with
      | lst h1 h2 => exact ⟨_, _, rfl, SqL.of (b1.sub _ _ h1), q _ H1 F1 b1 (ite_ok fun _ H F p s => ⟨s _ _ (p.2.fr _ _ h1), RpA.mono p.2.fr _ _ h2⟩)⟩
    · cases e2
      exact ⟨_, _, rfl, SqL.of h, q _ H1 F1 b1 (ite_ok fun _ H F p s => ⟨p.2.kp _ _ h n1 n2, RpA.mono p.2.fr _ _ r⟩)⟩
    · cases e2
  | _ => cases e3
end
end DL
end

section
set_option Elab.async false
set_option linter.all false
set_option maxRecDepth 100000
set_option maxHeartbeats 4000000
/-! DL21: enumerate of a tuple; max of a tuple of whole numbers. -/
namespace DL
open PySem PySem.Spec PyProof.Rows L2
set_option maxHeartbeats 1000000 in
theorem enum_new1 {v : Value} {o : Obj} {H : Heap → Prop} (B : Begins v o H) :
    Meets (Builtin.«enumerate.__new__» ⟨[.type "enumerate", v], []⟩) (fun _ R s => H s.heap ∧
      R (.ok (.ret (.ref (s.heap.push o).objs.size))) { s with heap := (s.heap.push o).push { cls := .type "enumerate", data := .fields #[.none, .bool false, .ref s.heap.objs.size, rawInt 0, .none, .none] } }) :=
  .of_wp fun prog w A R s h => by
    obtain ⟨hp, g, d, tk, os⟩ := s
    obtain ⟨h1, h⟩ := h
    have hsub := sub_enumerate
    have q1 : ∀ {A' : Around} {E : Value → Shared → Prop} {Q : Value → Shared → Prop}, Q (.ref hp.objs.size) ⟨hp.push o, g, d, tk, os⟩ → wpAny (model prog w) A' (pyIter v) Q E ⟨hp, g, d, tk, os⟩ := fun q => B.iter prog w _ _ ⟨hp, g, d, tk, os⟩ _ h1 q
    wp_walk using q1
    refine wpAny_stack_any fun st => wpAny_pure ?_
    split
    · rename_i c _ _ _ _ _
      cases (c == Value.type "enumerate")
      · wp_walk using q1
        exact ⟨_, rfl, h⟩
      · wp_walk using q1
        exact ⟨_, rfl, h⟩
    · wp_walk using q1
      exact ⟨_, rfl, h⟩
theorem enum_begins1 {prog : Program} {w : World} {A : Around} {E : Value → Shared → Prop} {s : Shared} {v : Value} {o : Obj} {H : Heap → Prop} {Q : Value → Shared → Prop} (B : Begins v o H) (h1 : H s.heap)
    (h : ∀ h', IsEnum h' (s.heap.objs.size + 1) s.heap.objs.size 0 .none → h'.get? s.heap.objs.size = some o → (∀ b o, s.heap.get? b = some o → h'.get? b = some o) → Q (.ref (s.heap.objs.size + 1)) { s with heap := h' }) :
    wpAny (model prog w) A (call (.type "enumerate") [v]) Q E s := by
  refine callType_new PySem.F.called_enumerate (by decide) (PySem.F.typeCall_enumerate_1 _) (PySem.F.newCall_enumerate_1 _) (fun obj => PySem.F.args_object_init_2 obj _) PySem.F.entry_enumerate_new (enum_new1 B) ⟨h1, ?_⟩
  have hz : (s.heap.push o).objs.size = s.heap.objs.size + 1 := Heap.size_push ..
  show _ ∧ _
  rw [hz]
  have he : IsEnum ((s.heap.push o).push { cls := .type "enumerate", data := .fields #[.none, .bool false, .ref s.heap.objs.size, rawInt 0, .none, .none] }) (s.heap.objs.size + 1) s.heap.objs.size 0 .none := by
    have := Heap.get?_push_size (s.heap.push o) (o := { cls := .type "enumerate", data := .fields #[.none, .bool false, .ref s.heap.objs.size, rawInt 0, .none, .none] }) rfl
    rw [hz] at this
    exact this
  exact ⟨⟨_, he, rfl⟩, h _ he (Heap.get?_push_of_some _ (Heap.get?_push_size _ B.free)) fun b o x => Heap.get?_push_of_some _ (Heap.get?_push_of_some _ x)⟩
theorem draws_end {prog : Program} {w : World} {A : Around} (hh : A.handled = none) (it t : Addr) (items : Array Value) (n : Nat) (hx : items[n]? = none) :
    Draws prog w A it [it, t] n (fun _ _ => False) (fun i h => i = n ∧ h.IsTupleIter it t i ∧ h.IsTuple t items) where
  live := fun _ _ st => let ⟨o, ho, _⟩ := st.2.1; ⟨o, ho⟩
  frame := fun _ _ _ st hk => ⟨st.1, st.2.1.at fun o e => hk it (by simp) o e, st.2.2.at fun o e => hk t (by simp) o e⟩
  item := fun i s Q E hi st hQ => by have := st.1; omega
  done := fun s Q E st hE => wpAny_nextOf_tuple_end hh st.2.1 st.2.2 hx hE
/-- the tuple at a, each item in a new pair -/
def IteT (K : PySem.W.Frag) (a : Addr) : It :=
  ⟨fun i H => ∃ (xs : List V) (x : V), SqT K H a xs ∧ xs[i]? = some x, fun i H v H' => ∃ T x, v = .ref T ∧ H T = none ∧ H' = upd H T (.tup [.int (i : Nat), x]) ∧ ∀ xs, SqT K H a xs → xs[i]? = some x, fun i H => ∃ xs : List V, SqT K H a xs ∧ xs.length ≤ i⟩
theorem turn_enumT {P : Program} {w : World} {K : PySem.W.Frag} {elts : List Expr} {kk : Nat} {tpos : Pos} (a e it : Addr) (hai : a ≠ it) (hae : a ≠ e) :
    Turn P w K (.Tuple elts kk tpos) (IteT K a) [e, it] e (fun i h => (∃ old, IsEnum h e it ((i : Nat) : Int) old) ∧ h.IsTupleIter it a i ∧ e ≠ it) where
  mem := by simp
  obj := fun i h st b hb => by
    obtain ⟨⟨old, he⟩, ⟨o, ho, hc, hd⟩, _⟩ := st
    have e' : b = e ∨ b = it := by simpa using hb
    rcases e' with z | z
    · rw [z]; exact ⟨_, he, fun v q => nomatch q⟩
    · rw [z]; exact ⟨o, ho, fun v q => by rw [hd] at q; cases q⟩
  keep := fun i h h' st k => let ⟨⟨old, he⟩, hi, hne⟩ := st; ⟨⟨old, k e (by simp) _ he⟩, hi.at fun o q => k it (by simp) o q, hne⟩
  item := by
    intro X hP hw hK hc i pins s σ H E I hf st hg
    subst hP hw hK
    obtain ⟨⟨old, he⟩, hit, hne⟩ := st
    obtain ⟨xs, x, hq, hx⟩ := hg
    obtain ⟨its, rv, p, hz⟩ := I.tuple hq
    obtain ⟨u, hu, ru⟩ := rv.get hx
    have pT : s.heap.IsTuple a its.toArray := p
    have hel : e < s.heap.objs.size := Heap.lt_size he
    have hil : it < s.heap.objs.size := by obtain ⟨_, q, _⟩ := hit; exact Heap.lt_size q
    have hlt : i < its.toArray.size := by rw [List.size_toArray]; exact (List.getElem?_eq_some_iff.mp hu).1
    refine wpAny_pyNext_enum_itemD (n := its.toArray.size) (fp := [it, a]) (Draws.tuple (A := X.A.in1) (I.ok.hd hc) it a hai its.toArray) he ⟨hit, pT⟩ hlt hne (by simp [hne, Ne.symm hae]) fun x' h' tk hP ho hs' hT hsz hk => ?_
    have ex' : x' = u := by
      rw [show its.toArray[i]? = its[i]? from by simp, hu] at hP
      exact (Option.some.inj hP).symm
    subst ex'
    refine ⟨_, rfl, wpAny_letOwnedTupleGo_enum (s := { s with heap := h', toks := tk + 1 }) ho fun h'' he' sb => ?_⟩
    have hT2 : h''.get? s.heap.objs.size = some { cls := .type "tuple", data := .seq #[.int i tk, x'] } := (sb.2 _ (Nat.ne_of_gt hel)).trans hT
    have new : ObjOk X.prog X.w (upd H s.heap.objs.size (.tup [.int (i : Nat), x])) h'' s.heap.objs.size (.tup [.int (i : Nat), x]) :=
      ⟨by show 2 ≤ sizeLine; decide, [.int i tk, x'], .cons ⟨_, rfl⟩ (.cons ru .nil), ⟨_, hT2, rfl, _, rfl⟩⟩
    have I1 : Inv X pins σ (upd H s.heap.objs.size (.tup [.int (i : Nat), x])) { s with heap := h'', toks := tk + 1 } :=
      I.turnedNew (ch := [e, it]) (fun b ob hb q => (sb.2 b (fun z => hb (by simp [z]))).trans (hk b ob (fun z => hb (by simp [z])) (fun z => hb (by simp [z])) q)) hf (Nat.le_refl _) new
    refine ⟨.ref s.heap.objs.size, _, I1, rfl, ⟨_, x, rfl, I.hok.fresh (Nat.le_refl _), rfl, fun ys hy => by rw [I.tuple_inj hy hq]; exact hx⟩, ⟨⟨x', ?_⟩, hs'.1.at fun o q => (sb.2 it (Ne.symm hne)).trans q, hne⟩, fun b hb => ?_⟩
    · have e1 : ((i + 1 : Nat) : Int) = (i : Int) + 1 := by omega
      rw [e1]; exact he'
    · have hb' : b < s.heap.objs.size := by
        have e' : b = e ∨ b = it := by simpa using hb
        rcases e' with z | z
        · rw [z]; exact hel
        · rw [z]; exact hil
      rw [upd_ne (Nat.ne_of_lt hb')]
      exact (hf b hb).1
  done := by
    intro X hP hw hK hc i pins s σ H E I hf st hg
    subst hP hw hK
    obtain ⟨⟨old, he⟩, hit, hne⟩ := st
    obtain ⟨xs, hq, hx⟩ := hg
    obtain ⟨its, rv, p, hz⟩ := I.tuple hq
    have pT : s.heap.IsTuple a its.toArray := p
    obtain ⟨f0, f1, f2, f3, f4, f5⟩ := hf it (by simp)
    have hl := rv.length
    exact wpAny_pyNext_enum_endD (draws_end (A := X.A.in1) (I.ok.hd hc) it a its.toArray i (by simp; omega)) he ⟨rfl, hit, pT⟩ fun h' eb => ⟨rfl, I.turned (t' := s.toks) (fun b o hb q => eb b o hb q) f0 f1 f3 f4 f5⟩
  self := fun A i s Q E st h => let ⟨⟨_, he⟩, _⟩ := st; wpAny_pyIter_enum he h
def iEnumA (K : PySem.W.Frag) (ta : TA) : TI := fun σ H R => ta σ H fun vs H1 => ∃ a xs, vs = [.ref a] ∧ ((SqL K H1 a xs ∧ R (Ite K a) H1) ∨ (SqT K H1 a xs ∧ R (IteT K a) H1))
theorem pi_enumA {X : Cx} {e : Expr} {ta : TA} {p pos tpos : Pos} {elts : List Expr} {kk : Nat} (hg : Gl X "enumerate") (hm : X.mg "enumerate" = none) (ha : PA X [e] ta) (hs : starEach [e] X.env = [(false, eval e X.env)] := by rfl) :
    PI X (.Tuple elts kk tpos) (.Call (.Name "enumerate" p) [e] [] pos) (iEnumA X.K ta) := by
  refine ⟨fun pins s σ H R I h => ?_⟩
  refine Call_ (ld_blt I hg hm boot_enumerate (PyProof.Rows.callWith_type1 (thn (ha.run pos pins s σ H _ I h) fun us s1 ⟨vs, H1, I1, r1, q1⟩ => ?_) hs rfl))
  obtain ⟨a, xs, ex, q1⟩ := q1
  subst ex
  cases r1 with
  | cons r rr =>
    cases rr
    cases r
    have fresh2 : ∀ b, b ∈ [s1.heap.objs.size + 1, s1.heap.objs.size] → FpOk X pins H1 b := fun b hb => by
      have e' : b = s1.heap.objs.size + 1 ∨ b = s1.heap.objs.size := by simpa using hb
      have hle : s1.heap.objs.size ≤ b := by
        rcases e' with z | z
        · rw [z]; exact Nat.le_add_right _ _
        · rw [z]; exact Nat.le_refl _
      exact I1.fpOk hle (I1.hok.fresh hle)
    rcases q1 with ⟨hq, q⟩ | ⟨hq, q⟩
    · obtain ⟨its, rv, p', hz⟩ := I1.list hq
      refine call_enumerate_list p'.isList fun h' he hit hsz hk => wpAny_pyIter_enum he ?_
      exact ⟨s1.heap.objs.size + 1, [s1.heap.objs.size + 1, s1.heap.objs.size], _, _, H1, rfl, I1.kept (t' := s1.toks) hk, turn_enum a (s1.heap.objs.size + 1) s1.heap.objs.size, ⟨⟨.none, he⟩, hit, Nat.succ_ne_self _⟩, fresh2, q⟩
    · obtain ⟨its, rv, p', hz⟩ := I1.tuple hq
      have pT : s1.heap.IsTuple a its.toArray := p'
      have hlt : a < s1.heap.objs.size := by obtain ⟨o, ho, _⟩ := id pT; exact Heap.lt_size ho
      refine enum_begins1 (begins_tuple a its.toArray) pT fun h' he hit hk => wpAny_pyIter_enum he ?_
      exact ⟨s1.heap.objs.size + 1, [s1.heap.objs.size + 1, s1.heap.objs.size], _, _, H1, rfl, I1.kept (t' := s1.toks) hk, turn_enumT a (s1.heap.objs.size + 1) s1.heap.objs.size (Nat.ne_of_lt hlt) (Nat.ne_of_lt (Nat.lt_succ_of_lt hlt)), ⟨⟨.none, he⟩, ⟨_, hit, rfl, rfl⟩, Nat.succ_ne_self _⟩, fresh2, q⟩
theorem iteT_ok {K : PySem.W.Frag} {a : Addr} {vs : List V} {ds : List PyData} {R : Gh → Hp → Hp → Prop} (h : ∀ g H F, R g H F → Same F H → SqT K H a vs ∧ RpA K F vs ds) : ItOk true K (IteT K a) (enumF 0 ds) R := fun i g H0 F0 H2 F2 st2 b2 p => by
  obtain ⟨h1, h2⟩ := h g H2 F2 p b2.sub
  refine ⟨fun d hd => ?_, fun hl => ⟨vs, h1, by rw [enumF_len] at hl; rw [h2.length]; exact hl⟩⟩
  obtain ⟨x, ex, rfl⟩ := enumF_get hd
  obtain ⟨v, e1, r1⟩ := h2.get ex
  refine ⟨⟨vs, v, h1, e1⟩, fun z H3 ⟨T, v', ez, hT, eH, y1⟩ => ?_⟩
  have q1 := y1 vs h1
  rw [e1] at q1; cases q1
  subst ez
  subst eH
  rw [Nat.zero_add]
  exact ⟨_, b2.base.newF hT, .inr ⟨rfl, T, _, _, rfl, rfl, upd_same, RpA.mono (Same.updN (noneF b2 hT)) _ _ (.cons (.int _) (.cons r1 .nil))⟩⟩
def mEnumA (m : Ev → M PyData) : Ev → M (List PyData) := fun ρ => do let d ← m ρ; let ds ← lft (seqD d); pure (enumF 0 ds)
section
variable {X : Cx} {a : Expr} {m : Ev → M PyData} {pos : Pos}
/-- enumerate of a frozen list or tuple -/
theorem si_enum {p tpos : Pos} {elts : List Expr} {kk : Nat} (hm : X.mg "enumerate" = none) (ha : SE X a m) (hg : Gl X "enumerate" := by rfl) (hs : starEach [a] X.env = (false, eval a X.env) :: starEach [] X.env := by rfl) :
    SI true X (.Tuple elts kk tpos) (.Call (.Name "enumerate" p) [a] [] pos) (mEnumA m) := fun g H0 F0 => (pi_enumA hg hm (pa_cons (ha g H0 F0) pa_nil hs) hs).imp fun σ H R ⟨ρ, F, st, ds, st', b, sl, e, q⟩ => by
  obtain ⟨d, st1, e1, f1⟩ := bnd e
  obtain ⟨xs, st2, e2, f2⟩ := bnd f1
  obtain ⟨e3, rfl⟩ := lfts e2
  obtain ⟨rfl, rfl⟩ := purs f2
  refine ⟨ρ, F, st, _, st', b, sl, e1, fun v H1 F1 b1 r1 => ?_⟩
  cases d with
  | list ds' =>
    cases e3
    cases r1 with
    | lst h1 h2 => exact ⟨_, _, rfl, .inl ⟨SqL.of (b1.sub _ _ h1), q _ H1 F1 b1 (ite_ok fun _ H F p s => ⟨s _ _ (p _ _ h1), RpA.mono p _ _ h2⟩)⟩⟩
  | tuple ds' =>
    cases e3
    cases r1 with
    | tup h1 h2 => exact ⟨_, _, rfl, .inr ⟨Same.sqT b1.sub h1.sq, q _ H1 F1 b1 (iteT_ok fun _ H F p s => ⟨Same.sqT s (Same.sqT p h1.sq), RpA.mono p _ _ h2⟩)⟩⟩
  | _ => cases e3
end
end DL
end

section
set_option Elab.async false
set_option linter.all false
set_option maxRecDepth 100000
set_option maxHeartbeats 4000000
/-! DL22: max of a tuple of whole numbers. -/
namespace DL
open PySem PySem.Spec PyProof.Rows L2
section
variable {X : Cx}
def rMaxT (K : PySem.W.Frag) : List V → Hp → VK → Prop := fun vs H Q => ∃ (a : Addr) (n : Int) (ns : List Int), vs = [V.ref a] ∧ SqT K H a ((n :: ns).map V.int) ∧ Q (.int (ns.foldl max n)) H
theorem cr_maxT (hc : X.calm = true) (hu : X.A.units + 1 < cLine) : CallR X (.builtin "max") (rMaxT X.K) := by
  intro pins s σ H vs us Q I r h
  obtain ⟨a, n, ns, rfl, hs, q⟩ := h
  obtain ⟨its, rv, hl, _⟩ := I.tuple hs
  rw [Vals.ref1 r]
  have pT : s.heap.IsTuple a its.toArray := hl
  have rd : ∀ (ms : List Int) (us : List Value), Vals (ms.map V.int) us → ∃ as, ReadsAll s.heap us (ms.map PyData.int) as := fun ms => by
    induction ms with
    | nil => intro us r; cases r; exact ⟨_, .nil⟩
    | cons m ms ih =>
      intro us r
      cases r with
      | cons r1 r2 =>
        obtain ⟨t, rfl⟩ := r1
        obtain ⟨as, h⟩ := ih _ r2
        exact ⟨_, .cons (.int m t) h⟩
  obtain ⟨as, hr⟩ := rd (n :: ns) its rv
  have hd : ∀ ms : List Int, PyData.depthAll (ms.map .int) = 0 := fun ms => by
    induction ms with
    | nil => simp [PyData.depthAll]
    | cons m ms ih => rw [List.map_cons]; simp [PyData.depthAll, PyData.depth, ih]
  have hA : PySem.W.AlikeAll (PyData.int n :: ns.map .int) := ⟨fun x hx y hy => by
    obtain ⟨i, _, rfl⟩ := List.mem_map.mp (show x ∈ (n :: ns).map PyData.int from hx)
    obtain ⟨j, _, rfl⟩ := List.mem_map.mp (show y ∈ (n :: ns).map PyData.int from hy)
    simp [PySem.W.alike], fun x hx z => by
    obtain ⟨i, _, rfl⟩ := List.mem_map.mp (show x ∈ (n :: ns).map PyData.int from hx)
    cases z⟩
  refine PySem.W.max_tuple_data (I.ok.hd hc) pT (by simpa using hr) hA (by have := hd (n :: ns); rw [List.map_cons] at this; rw [this]; omega) fun i v h' tk bs hv hR hk => ?_
  rw [PySem.W.maxD_ints] at hR
  cases hR with
  | int _ t => exact ⟨.int _, H, I.kept (t' := tk) hk, ⟨_, rfl⟩, q⟩
def maxTD : List PyData → Option PyData
  | [.tuple ds] => (intsOf ds).bind fun ns => match ns with | [] => none | n :: ns => some (.int (ns.foldl max n))
  | _ => none
theorem cd_maxT (hc : X.calm = true) (hu : X.A.units + 1 < cLine) : CallD X (.builtin "max") maxTD := (cr_maxT hc hu).imp fun xs H Q ⟨g, F, st, ds, r, b, rs, h, q⟩ => by
  unfold maxTD at h
  split at h
  · obtain ⟨ns, e1, e2⟩ := Option.bind_eq_some_iff.mp h
    cases intsOf_some e1
    cases ns with
    | nil => cases e2
    | cons n ns =>
      cases e2
      obtain ⟨v, rfl, r1⟩ := rs.one
      obtain ⟨a, vs, rfl, _, h2, h3⟩ := r1.tuple b.sub
      cases h3.of_ints
      exact ⟨a, n, ns, rfl, h2, q _ H F b (.int _)⟩
  · cases h
end
end DL
end

section
set_option Elab.async false
set_option linter.all false
/-! PL1: sums of powers with rational numbers as coefficients, in plain words. -/
namespace PL
abbrev Po := List (Int × Rat)
def co : Po → Int → Rat
  | [], _ => 0
  | e :: L, i => if e.1 = i then e.2 + co L i else co L i
def ev : Po → Rat → Rat
  | [], _ => 0
  | e :: L, s => e.2 * s ^ e.1 + ev L s
structure Can (P : Po) : Prop where
  up : (P.map (·.1)).Pairwise (· < ·)
  nz : ∀ e ∈ P, e.2 ≠ 0
theorem co_cons (e : Int × Rat) (L : Po) (i : Int) : co (e :: L) i = if e.1 = i then e.2 + co L i else co L i := rfl
theorem co_app : ∀ (L M : Po) (i : Int), co (L ++ M) i = co L i + co M i
  | [], M, i => by rw [List.nil_append]; show _ = 0 + _; grind
  | e :: L, M, i => by
    rw [List.cons_append, co_cons, co_cons, co_app L M i]
    split
    · grind
    · rfl
theorem co_none {P : Po} {i : Int} (h : ∀ e ∈ P, e.1 ≠ i) : co P i = 0 := by
  induction P with
  | nil => rfl
  | cons e P ih =>
    rw [co_cons, if_neg (h e List.mem_cons_self)]
    exact ih fun x hx => h x (List.mem_cons_of_mem _ hx)
theorem Can.tail {e : Int × Rat} {P : Po} (h : Can (e :: P)) : Can P := ⟨by have := h.up; rw [List.map_cons] at this; exact (List.pairwise_cons.mp this).2, fun x hx => h.nz x (List.mem_cons_of_mem _ hx)⟩
theorem Can.lt {e : Int × Rat} {P : Po} (h : Can (e :: P)) : ∀ x ∈ P, e.1 < x.1 := fun x hx => by
  have := h.up
  rw [List.map_cons] at this
  exact (List.pairwise_cons.mp this).1 x.1 (List.mem_map.mpr ⟨x, hx, rfl⟩)
theorem Can.head {e : Int × Rat} {P : Po} (h : Can (e :: P)) : co (e :: P) e.1 = e.2 := by
  rw [co_cons, if_pos rfl, co_none fun x hx => by have := h.lt x hx; omega]
  grind
theorem Can.uniq : ∀ {P Q : Po}, Can P → Can Q → (∀ i, co P i = co Q i) → P = Q
  | [], [], _, _, _ => rfl
  | [], e :: Q, _, hq, h => by
    have := h e.1
    rw [hq.head] at this
    exact absurd this.symm (hq.nz e List.mem_cons_self)
  | e :: P, [], hp, _, h => by
    have := h e.1
    rw [hp.head] at this
    exact absurd this (hp.nz e List.mem_cons_self)
  | e :: P, f :: Q, hp, hq, h => by
    have he := hp.nz e List.mem_cons_self
    have hf := hq.nz f List.mem_cons_self
    have h1 : e.1 = f.1 := by
      rcases Int.lt_trichotomy e.1 f.1 with z | z | z
      · have := h e.1
        rw [hp.head, co_none fun x hx => ?_] at this
        · exact absurd this he
        · rcases List.mem_cons.mp hx with rfl | hx
          · omega
          · have := hq.lt x hx; omega
      · exact z
      · have := h f.1
        rw [hq.head, co_none fun x hx => ?_] at this
        · exact absurd this.symm hf
        · rcases List.mem_cons.mp hx with rfl | hx
          · omega
          · have := hp.lt x hx; omega
    have h2 : e.2 = f.2 := by
      have := h e.1
      rw [hp.head, h1, hq.head] at this
      exact this
    have : P = Q := Can.uniq hp.tail hq.tail fun i => by
      have := h i
      rw [co_cons, co_cons, h1, h2] at this
      split at this
      · rename_i z
        rw [co_none fun x hx => by have := hp.lt x hx; omega, co_none fun x hx => by have := hq.lt x hx; omega]
      · exact this
    rw [this, Prod.ext h1 h2]
def keysIn (L : Po) (ks : List Int) : Prop := ∀ e ∈ L, e.1 ∈ ks
theorem sum_zero {α : Type} {f : α → Rat} {ks : List α} (h : ∀ i ∈ ks, f i = 0) : (ks.map f).sum = 0 := by
  induction ks with
  | nil => rfl
  | cons k ks ih =>
    rw [List.map_cons, List.sum_cons, h k List.mem_cons_self, ih fun i hi => h i (List.mem_cons_of_mem _ hi)]
    grind
theorem sum_one {f g : Int → Rat} {j : Int} {d : Rat} : ∀ {ks : List Int}, ks.Nodup → j ∈ ks → (∀ i, f i = if j = i then d + g i else g i) → (ks.map f).sum = d + (ks.map g).sum
  | k :: ks, hn, hj, h => by
    rw [List.map_cons, List.map_cons, List.sum_cons, List.sum_cons]
    rcases List.mem_cons.mp hj with rfl | hj
    · rw [h j, if_pos rfl, show ks.map f = ks.map g from List.map_congr_left fun i hi => by rw [h i, if_neg (fun e : j = i => (List.nodup_cons.mp hn).1 (by rw [e]; exact hi))]]
      grind
    · rw [h k, if_neg (fun e : j = k => (List.nodup_cons.mp hn).1 (by rw [← e]; exact hj)), sum_one (List.nodup_cons.mp hn).2 hj h]
      grind
theorem ev_sum (s : Rat) {ks : List Int} (hn : ks.Nodup) : ∀ {L : Po}, keysIn L ks → ev L s = (ks.map fun i => co L i * s ^ i).sum
  | [], _ => by
    show (0 : Rat) = _
    rw [sum_zero]
    intro i _
    show (0 : Rat) * _ = 0
    grind
  | e :: L, h => by
    rw [sum_one (j := e.1) (d := e.2 * s ^ e.1) (g := fun i => co L i * s ^ i) hn (h e List.mem_cons_self) fun i => ?_]
    · show e.2 * s ^ e.1 + ev L s = _
      rw [ev_sum s hn fun x hx => h x (List.mem_cons_of_mem _ hx)]
    · show co (e :: L) i * s ^ i = _
      rw [co_cons]
      by_cases z : e.1 = i
      · rw [if_pos z, if_pos z, z]; grind
      · rw [if_neg z, if_neg z]
/-- the same numbers, the same worths -/
theorem dedup_ex : ∀ L : List Int, ∃ ks : List Int, ks.Nodup ∧ ∀ i, i ∈ ks ↔ i ∈ L
  | [] => ⟨[], List.nodup_nil, fun i => Iff.rfl⟩
  | k :: L => by
    obtain ⟨ks, h1, h2⟩ := dedup_ex L
    by_cases hk : k ∈ ks
    · refine ⟨ks, h1, fun i => ⟨fun h => List.mem_cons_of_mem _ ((h2 i).mp h), fun h => ?_⟩⟩
      rcases List.mem_cons.mp h with rfl | h
      · exact hk
      · exact (h2 i).mpr h
    · refine ⟨k :: ks, List.nodup_cons.mpr ⟨hk, h1⟩, fun i => ?_⟩
      rw [List.mem_cons, List.mem_cons, h2 i]
theorem ev_congr {L M : Po} (h : ∀ i, co L i = co M i) (s : Rat) : ev L s = ev M s := by
  obtain ⟨ks, hn, hk⟩ := dedup_ex ((L ++ M).map (·.1))
  rw [ev_sum s hn (L := L) fun e he => (hk _).mpr (List.mem_map.mpr ⟨e, List.mem_append_left _ he, rfl⟩), ev_sum s hn (L := M) fun e he => (hk _).mpr (List.mem_map.mpr ⟨e, List.mem_append_right _ he, rfl⟩)]
  exact congrArg List.sum (List.map_congr_left fun i _ => by rw [h i])
theorem ev_app : ∀ (L M : Po) (s : Rat), ev (L ++ M) s = ev L s + ev M s
  | [], M, s => by rw [List.nil_append]; show _ = 0 + _; grind
  | e :: L, M, s => by
    rw [List.cons_append]
    show _ + ev (L ++ M) s = _ + ev L s + _
    rw [ev_app L M s]; grind
/-- what is known of a sum of powers put together -/
structure IsCf (L P : Po) : Prop where
  can : Can P
  eq : ∀ i, co P i = co L i
theorem IsCf.ev {L P : Po} (h : IsCf L P) (s : Rat) : ev P s = PL.ev L s := ev_congr h.eq s
theorem IsCf.uniq {L M P Q : Po} (h1 : IsCf L P) (h2 : IsCf M Q) (h : ∀ i, co L i = co M i) : P = Q := Can.uniq h1.can h2.can fun i => by rw [h1.eq, h2.eq, h]
theorem IsCf.self {P : Po} (h : Can P) : IsCf P P := ⟨h, fun _ => rfl⟩
theorem Can.keys {L P : Po} (h : IsCf L P) : ∀ e ∈ P, ∃ f ∈ L, f.1 = e.1 := fun e he => by
  have hp : co P e.1 ≠ 0 := by
    have : ∀ {P : Po}, Can P → e ∈ P → co P e.1 = e.2 := fun {P} => by
      induction P with
      | nil => intro _ h; exact nomatch h
      | cons f P ih =>
        intro hc hm
        rcases List.mem_cons.mp hm with rfl | hm
        · exact hc.head
        · have := hc.lt e hm
          rw [co_cons, if_neg (by omega)]
          exact ih hc.tail hm
    rw [this h.can he]
    exact h.can.nz e he
  apply Classical.byContradiction
  intro hn
  refine hp ?_
  rw [h.eq, co_none fun f hf z => hn ⟨f, hf, z⟩]
/-! scaled, multiplied -/
def scaled (c : Rat) (L : Po) : Po := L.map fun e => (e.1, c * e.2)
theorem co_scaled (c : Rat) : ∀ (L : Po) (i : Int), co (scaled c L) i = c * co L i
  | [], i => by show (0 : Rat) = c * 0; grind
  | e :: L, i => by
    show co ((e.1, c * e.2) :: scaled c L) i = _
    rw [co_cons, co_cons, co_scaled c L i]
    split
    · grind
    · rfl
theorem ev_scaled (c : Rat) (s : Rat) : ∀ L : Po, ev (scaled c L) s = c * ev L s
  | [] => by show (0 : Rat) = c * 0; grind
  | e :: L => by
    show c * e.2 * s ^ e.1 + ev (scaled c L) s = _
    rw [ev_scaled c s L]
    show _ = c * (e.2 * s ^ e.1 + ev L s)
    grind
def timesOne (e : Int × Rat) (M : Po) : Po := M.map fun f => (e.1 + f.1, e.2 * f.2)
def timesAll : Po → Po → Po
  | [], _ => []
  | e :: L, M => timesOne e M ++ timesAll L M
theorem ev_timesOne {s : Rat} (hs : s ≠ 0) (e : Int × Rat) : ∀ M : Po, ev (timesOne e M) s = e.2 * s ^ e.1 * ev M s
  | [] => by show (0 : Rat) = _ * 0; grind
  | f :: M => by
    show e.2 * f.2 * s ^ (e.1 + f.1) + ev (timesOne e M) s = _
    rw [ev_timesOne hs e M, Rat.zpow_add hs]
    show _ = e.2 * s ^ e.1 * (f.2 * s ^ f.1 + ev M s)
    grind
theorem ev_timesAll {s : Rat} (hs : s ≠ 0) : ∀ L M : Po, ev (timesAll L M) s = ev L s * ev M s
  | [], M => by show (0 : Rat) = 0 * _; grind
  | e :: L, M => by
    show ev (timesOne e M ++ timesAll L M) s = (e.2 * s ^ e.1 + ev L s) * ev M s
    rw [ev_app, ev_timesOne hs, ev_timesAll hs L M]
    grind
theorem co_timesOne (e : Int × Rat) (i : Int) : ∀ M : Po, co (timesOne e M) i = e.2 * co M (i - e.1)
  | [] => by show (0 : Rat) = _ * 0; grind
  | f :: M => by
    show co ((e.1 + f.1, e.2 * f.2) :: timesOne e M) i = e.2 * co (f :: M) (i - e.1)
    rw [co_cons, co_cons, co_timesOne e i M]
    by_cases h : e.1 + f.1 = i
    · rw [if_pos h, if_pos (by show f.1 = _; omega)]; grind
    · rw [if_neg h, if_neg (by show ¬ f.1 = _; omega)]
theorem co_timesR (i : Int) (f : Int × Rat) (M : Po) : ∀ L : Po, co (timesAll L (f :: M)) i = f.2 * co L (i - f.1) + co (timesAll L M) i
  | [] => by show (0 : Rat) = _ * 0 + 0; grind
  | e :: L => by
    show co (timesOne e (f :: M) ++ timesAll L (f :: M)) i = _
    rw [co_app, co_timesR i f M L, co_timesOne]
    show _ = f.2 * co (e :: L) (i - f.1) + co (timesOne e M ++ timesAll L M) i
    rw [co_app, co_timesOne]
    rw [co_cons, co_cons]
    by_cases h : f.1 = i - e.1
    · rw [if_pos h, if_pos (by omega)]; grind
    · rw [if_neg h, if_neg (by omega)]; grind
theorem co_timesC (i : Int) : ∀ L M : Po, co (timesAll L M) i = co (timesAll M L) i
  | L, [] => by
    have : ∀ L : Po, timesAll L [] = [] := fun L => by
      induction L with
      | nil => rfl
      | cons e L ih => show timesOne e [] ++ timesAll L [] = []; rw [ih]; rfl
    rw [this]; rfl
  | L, f :: M => by
    rw [co_timesR, co_timesC i L M]
    show _ = co (timesOne f L ++ timesAll M L) i
    rw [co_app, co_timesOne]
/-! where sums of powers are 0 -/
def evL : List Rat → Rat → Rat
  | [], _ => 0
  | c :: cs, x => c + x * evL cs x
def dv : List Rat → Rat → List Rat
  | [], _ => []
  | d :: ds, r => evL (d :: ds) r :: dv ds r
theorem dv_ok (r x : Rat) : ∀ cs : List Rat, x * evL cs x = r * evL cs r + (x - r) * evL (dv cs r) x
  | [] => by show x * 0 = r * 0 + (x - r) * 0; grind
  | d :: ds => by
    have ih := dv_ok r x ds
    show x * (d + x * evL ds x) = r * (d + r * evL ds r) + (x - r) * ((d + r * evL ds r) + x * evL (dv ds r) x)
    generalize evL ds x = E at *
    generalize evL ds r = F at *
    generalize evL (dv ds r) x = G at *
    grind
theorem dv_len (r : Rat) : ∀ cs : List Rat, (dv cs r).length = cs.length
  | [] => rfl
  | d :: ds => by show (dv ds r).length + 1 = ds.length + 1; rw [dv_len r ds]
theorem dv_zero (r : Rat) : ∀ cs : List Rat, (∀ c ∈ dv cs r, c = 0) → ∀ c ∈ cs, c = 0
  | [], _ => fun c h => nomatch h
  | d :: ds, h => by
    have h1 : d + r * evL ds r = 0 := h _ List.mem_cons_self
    have h2 := dv_zero r ds fun c hc => h c (List.mem_cons_of_mem _ hc)
    have h3 : evL ds r = 0 := by
      cases ds with
      | nil => rfl
      | cons e es => exact h _ (List.mem_cons_of_mem _ List.mem_cons_self)
    intro c hc
    rcases List.mem_cons.mp hc with rfl | hc
    · rw [h3] at h1; grind
    · exact h2 c hc
theorem roots : ∀ (rs : List Rat), rs.Nodup → ∀ cs : List Rat, cs.length ≤ rs.length → (∀ r ∈ rs, evL cs r = 0) → ∀ c ∈ cs, c = 0
  | [], _, cs, hl, _ => by
    cases cs with
    | nil => exact fun c h => nomatch h
    | cons c cs => exact absurd hl (by simp)
  | r :: rs, hn, [], _, _ => fun c h => nomatch h
  | r :: rs, hn, d :: ds, hl, h => by
    have hr : d + r * evL ds r = 0 := h r List.mem_cons_self
    have h1 := roots rs (List.nodup_cons.mp hn).2 (dv ds r) (by rw [dv_len]; simpa using hl) fun x hx => by
      have hx0 : d + x * evL ds x = 0 := h x (List.mem_cons_of_mem _ hx)
      have hne : x - r ≠ 0 := fun z => (List.nodup_cons.mp hn).1 (by
        have : x = r := by grind
        exact this ▸ hx)
      have := dv_ok r x ds
      have h3 : (x - r) * evL (dv ds r) x = 0 := by grind
      rcases Rat.mul_eq_zero.mp h3 with z | z
      · exact absurd z hne
      · exact z
    have h2 := dv_zero r ds h1
    have h4 : evL ds r = 0 := by
      cases ds with
      | nil => rfl
      | cons e es => exact h1 _ List.mem_cons_self
    intro c hc
    rcases List.mem_cons.mp hc with rfl | hc
    · rw [h4] at hr; grind
    · exact h2 c hc
/-- the numbers at lo, lo + 1, .. -/
def cof (P : Po) (lo : Int) : Nat → List Rat
  | 0 => []
  | n + 1 => co P lo :: cof P (lo + 1) n
theorem cof_len (P : Po) : ∀ (n : Nat) (lo : Int), (cof P lo n).length = n
  | 0, _ => rfl
  | n + 1, lo => by show (cof P (lo + 1) n).length + 1 = _; rw [cof_len P n]
theorem cof_ev {s : Rat} (hs : s ≠ 0) (P : Po) : ∀ (n : Nat) (lo : Int), (((List.range n).map fun (k : Nat) => lo + (k : Int)).map fun i => co P i * s ^ i).sum = s ^ lo * evL (cof P lo n) s
  | 0, lo => by show (0 : Rat) = s ^ lo * 0; grind
  | n + 1, lo => by
    have h := cof_ev hs P n (lo + 1)
    rw [List.range_succ_eq_map, List.map_cons, List.map_cons, List.sum_cons, List.map_map (l := List.range n)]
    have e : (List.range n).map ((fun (k : Nat) => lo + (k : Int)) ∘ Nat.succ) = (List.range n).map fun (k : Nat) => lo + 1 + (k : Int) := List.map_congr_left fun k _ => by
      show lo + ((k + 1 : Nat) : Int) = _
      omega
    rw [e, h, Rat.zpow_add hs lo 1]
    have e1 : s ^ (1 : Int) = s := Rat.zpow_one s
    have e0 : lo + ((0 : Nat) : Int) = lo := by omega
    rw [e1, e0]
    show _ = s ^ lo * (co P lo + s * evL (cof P (lo + 1) n) s)
    grind
theorem cof_zero (P : Po) : ∀ (n : Nat) (lo : Int), (∀ c ∈ cof P lo n, c = 0) → ∀ i, lo ≤ i → i < lo + n → co P i = 0
  | 0, lo, _, i, h1, h2 => by omega
  | n + 1, lo, h, i, h1, h2 => by
    by_cases e : i = lo
    · subst e; exact h _ List.mem_cons_self
    · exact cof_zero P n (lo + 1) (fun c hc => h c (List.mem_cons_of_mem _ hc)) i (by omega) (by omega)
/-- n unlike places tell n numbers -/
theorem told {P Q : Po} (hP : Can P) (hQ : Can Q) {lo : Int} {n : Nat} (kP : ∀ e ∈ P, lo ≤ e.1 ∧ e.1 < lo + n) (kQ : ∀ e ∈ Q, lo ≤ e.1 ∧ e.1 < lo + n) {rs : List Rat} (hn : rs.Nodup) (hl : n ≤ rs.length) (h0 : ∀ r ∈ rs, r ≠ 0) (h : ∀ r ∈ rs, ev P r = ev Q r) : P = Q := by
  have hks : ((List.range n).map fun (k : Nat) => lo + (k : Int)).Nodup := by
    unfold List.Nodup
    rw [List.pairwise_map]
    exact List.nodup_range.imp fun h => by omega
  have mem : ∀ {R : Po}, (∀ e ∈ R, lo ≤ e.1 ∧ e.1 < lo + n) → keysIn R ((List.range n).map fun (k : Nat) => lo + (k : Int)) := fun hR e he => by
    have := hR e he
    exact List.mem_map.mpr ⟨(e.1 - lo).toNat, List.mem_range.mpr (by omega), by omega⟩
  have hD : ∀ i, co (P ++ scaled (-1) Q) i = co P i - co Q i := fun i => by rw [co_app, co_scaled]; grind
  have z := roots rs hn (cof (P ++ scaled (-1) Q) lo n) (by rw [cof_len]; exact hl) fun r hr => by
    have h1 := cof_ev (h0 r hr) (P ++ scaled (-1) Q) n lo
    rw [← ev_sum r hks (L := P ++ scaled (-1) Q) (fun e he => ?_), ev_app, ev_scaled, h r hr] at h1
    · have h2 : r ^ lo * evL (cof (P ++ scaled (-1) Q) lo n) r = 0 := by grind
      rcases Rat.mul_eq_zero.mp h2 with z | z
      · exact absurd z fun y => by
          have h3 := Rat.zpow_add (h0 r hr) lo (-lo)
          rw [show lo + -lo = 0 by omega, Rat.zpow_zero, y] at h3
          grind
      · exact z
    · rcases List.mem_append.mp he with he | he
      · exact mem kP e he
      · obtain ⟨x, hx, rfl⟩ := List.mem_map.mp he
        exact mem kQ x hx
  have z2 := cof_zero _ n lo z
  refine Can.uniq hP hQ fun i => ?_
  by_cases hi : lo ≤ i ∧ i < lo + n
  · have := z2 i hi.1 hi.2
    rw [hD] at this
    grind
  · rw [co_none fun e he z => hi (by rw [← z]; exact kP e he), co_none fun e he z => hi (by rw [← z]; exact kQ e he)]
end PL
end

section
set_option Elab.async false
set_option linter.all false
/-! PL2: bounds of fractions; sums of powers put together term by term. -/
namespace PL
/-- a fraction within bounds -/
structure Q (M n : Nat) (q : Rat) : Prop where
  dv : q.den ∣ M
  nm : q.num.natAbs < 2 ^ n
theorem int_div (z : Int) : (z : Rat) = Rat.divInt z 1 := by
  have h := Rat.num_divInt_den (z : Rat)
  rw [Rat.num_intCast, Rat.den_intCast] at h
  exact h.symm
theorem den_dvd {q : Rat} {M : Nat} : q.den ∣ M ↔ ∃ z : Int, q * (M : Rat) = (z : Rat) := by
  have hq : q = Rat.divInt q.num (q.den : Int) := (Rat.num_divInt_den q).symm
  have hM : (M : Rat) = Rat.divInt (M : Int) 1 := by
    rw [← Rat.intCast_natCast]; exact int_div _
  have hd : (q.den : Int) ≠ 0 := by have := q.den_pos; omega
  have hmul : q * (M : Rat) = Rat.divInt (q.num * (M : Int)) ((q.den : Int) * 1) := by
    conv => lhs; rw [hq, hM]
    rw [Rat.divInt_mul_divInt]
  constructor
  · rintro ⟨k, hk⟩
    refine ⟨q.num * (k : Int), ?_⟩
    rw [hmul, int_div (q.num * (k : Int)), Rat.divInt_eq_divInt_iff (by omega) (by decide), hk, Int.natCast_mul]
    grind
  · rintro ⟨z, hz⟩
    rw [hmul, int_div z, Rat.divInt_eq_divInt_iff (by omega) (by decide), Int.mul_one, Int.mul_one] at hz
    have h1 : (q.den : Int) ∣ q.num * (M : Int) := ⟨z, by rw [hz, Int.mul_comm]⟩
    have h2 : q.den ∣ q.num.natAbs * M := by
      have := Int.natAbs_dvd_natAbs.mpr h1
      rwa [Int.natAbs_mul, Int.natAbs_natCast, Int.natAbs_natCast] at this
    exact (Nat.Coprime.symm q.reduced).dvd_of_dvd_mul_left h2
theorem den_add {a b : Rat} {M : Nat} (ha : a.den ∣ M) (hb : b.den ∣ M) : (a + b).den ∣ M := by
  obtain ⟨x, hx⟩ := den_dvd.mp ha
  obtain ⟨y, hy⟩ := den_dvd.mp hb
  exact den_dvd.mpr ⟨x + y, by rw [Rat.intCast_add, ← hx, ← hy]; grind⟩
theorem den_sub {a b : Rat} {M : Nat} (ha : a.den ∣ M) (hb : b.den ∣ M) : (a - b).den ∣ M := by
  obtain ⟨x, hx⟩ := den_dvd.mp ha
  obtain ⟨y, hy⟩ := den_dvd.mp hb
  exact den_dvd.mpr ⟨x - y, by rw [Rat.intCast_sub, ← hx, ← hy]; grind⟩
theorem den_mul {a b : Rat} {M N : Nat} (ha : a.den ∣ M) (hb : b.den ∣ N) : (a * b).den ∣ M * N := by
  obtain ⟨x, hx⟩ := den_dvd.mp ha
  obtain ⟨y, hy⟩ := den_dvd.mp hb
  exact den_dvd.mpr ⟨x * y, by rw [Rat.intCast_mul, Rat.natCast_mul, ← hx, ← hy]; grind⟩
theorem num_norm (p : Int) (d : Nat) (hd : d ≠ 0) : (Rat.normalize p d hd).num.natAbs ≤ p.natAbs := by
  rw [Rat.normalize_eq]
  show (p / _).natAbs ≤ _
  rw [Int.natAbs_ediv_of_dvd (Int.ofNat_dvd_left.mpr (Nat.gcd_dvd_left _ _))]
  exact Nat.div_le_self _ _
theorem mul_lt {a b n m : Nat} (ha : a < 2 ^ n) (hb : b < 2 ^ m) : a * b < 2 ^ (n + m) := by
  rw [Nat.pow_add]
  exact Nat.lt_of_le_of_lt (Nat.mul_le_mul_right b (Nat.le_of_lt ha)) (Nat.mul_lt_mul_of_pos_left hb (Nat.two_pow_pos n))
theorem pow_le {n m : Nat} (h : n ≤ m) : 2 ^ n ≤ 2 ^ m := Nat.pow_le_pow_right (by decide) h
theorem num_add {a b : Rat} {n k : Nat} (ha : a.num.natAbs < 2 ^ n) (hb : b.num.natAbs < 2 ^ n) (da : a.den < 2 ^ k) (db : b.den < 2 ^ k) : (a + b).num.natAbs < 2 ^ (n + k + 1) := by
  rw [Rat.add_def]
  refine Nat.lt_of_le_of_lt (num_norm _ _ _) ?_
  have h1 := mul_lt ha db
  have h2 := mul_lt hb da
  have h3 : (a.num * (b.den : Int) + b.num * (a.den : Int)).natAbs ≤ a.num.natAbs * b.den + b.num.natAbs * a.den := by
    refine Nat.le_trans (Int.natAbs_add_le _ _) ?_
    rw [Int.natAbs_mul, Int.natAbs_mul, Int.natAbs_natCast, Int.natAbs_natCast]
    exact Nat.le_refl _
  rw [Nat.pow_succ]
  omega
theorem num_sub {a b : Rat} {n k : Nat} (ha : a.num.natAbs < 2 ^ n) (hb : b.num.natAbs < 2 ^ n) (da : a.den < 2 ^ k) (db : b.den < 2 ^ k) : (a - b).num.natAbs < 2 ^ (n + k + 1) := by
  rw [show a - b = a + -b by grind]
  exact num_add ha (by rw [Rat.neg_num, Int.natAbs_neg]; exact hb) da (by rw [Rat.neg_den]; exact db)
theorem num_mul {a b : Rat} {n m : Nat} (ha : a.num.natAbs < 2 ^ n) (hb : b.num.natAbs < 2 ^ m) : (a * b).num.natAbs < 2 ^ (n + m) := by
  rw [Rat.mul_def]
  refine Nat.lt_of_le_of_lt (num_norm _ _ _) ?_
  rw [Int.natAbs_mul]
  exact mul_lt ha hb
section
variable {M N n m k : Nat} {a b : Rat}
theorem Q.mono (h : Q M n a) (hn : n ≤ m) : Q M m a := ⟨h.dv, Nat.lt_of_lt_of_le h.nm (pow_le hn)⟩
theorem Q.dlt (h : Q M n a) (h0 : 0 < M) (hM : M < 2 ^ k) : a.den < 2 ^ k := Nat.lt_of_le_of_lt (Nat.le_of_dvd h0 h.dv) hM
theorem Q.add (ha : Q M n a) (hb : Q M n b) (h0 : 0 < M) (hM : M < 2 ^ k) : Q M (n + k + 1) (a + b) := ⟨den_add ha.dv hb.dv, num_add ha.nm hb.nm (ha.dlt h0 hM) (hb.dlt h0 hM)⟩
theorem Q.sub (ha : Q M n a) (hb : Q M n b) (h0 : 0 < M) (hM : M < 2 ^ k) : Q M (n + k + 1) (a - b) := ⟨den_sub ha.dv hb.dv, num_sub ha.nm hb.nm (ha.dlt h0 hM) (hb.dlt h0 hM)⟩
theorem Q.mul (ha : Q M n a) (hb : Q N m b) : Q (M * N) (n + m) (a * b) := ⟨den_mul ha.dv hb.dv, num_mul ha.nm hb.nm⟩
theorem Q.up (h : Q M n a) (hd : M ∣ N) : Q N n a := ⟨Nat.dvd_trans h.dv hd, h.nm⟩
theorem Q.zero (hn : 0 < n) : Q M n 0 := ⟨Nat.one_dvd _, Nat.two_pow_pos n⟩
end
/-! put together term by term -/
def putR (R : Po) (i : Int) (c : Rat) : Po := if (R.any fun e => decide (e.1 = i)) = true then R.map fun e => if e.1 = i then (e.1, c) else e else R ++ [(i, c)]
theorem any_iff {R : Po} {i : Int} : (R.any fun e => decide (e.1 = i)) = true ↔ i ∈ R.map (·.1) := by
  rw [List.any_eq_true]
  constructor
  · rintro ⟨e, he, h⟩
    exact List.mem_map.mpr ⟨e, he, of_decide_eq_true h⟩
  · intro h
    obtain ⟨e, he, h⟩ := List.mem_map.mp h
    exact ⟨e, he, decide_eq_true h⟩
theorem putR_keys (R : Po) (i : Int) (c : Rat) : (putR R i c).map (·.1) = if (R.any fun e => decide (e.1 = i)) = true then R.map (·.1) else R.map (·.1) ++ [i] := by
  unfold putR
  split
  · rw [List.map_map]
    refine List.map_congr_left fun e _ => ?_
    show (if e.1 = i then (e.1, c) else e).1 = e.1
    split <;> rfl
  · rw [List.map_append]; rfl
theorem putR_nodup {R : Po} {i : Int} {c : Rat} (h : (R.map (·.1)).Nodup) : ((putR R i c).map (·.1)).Nodup := by
  rw [putR_keys]
  split
  · exact h
  · rename_i hn
    rw [List.nodup_append]
    refine ⟨h, by simp, fun a ha b hb e => hn (any_iff.mpr ?_)⟩
    rw [List.mem_singleton] at hb
    rw [← hb, ← e]; exact ha
theorem co_nodup : ∀ {R : Po}, (R.map (·.1)).Nodup → ∀ e ∈ R, co R e.1 = e.2
  | f :: R, hn, e, he => by
    rw [List.map_cons, List.nodup_cons] at hn
    rcases List.mem_cons.mp he with rfl | he
    · rw [co_cons, if_pos rfl, co_none fun x hx z => hn.1 (List.mem_map.mpr ⟨x, hx, z⟩)]; grind
    · rw [co_cons, if_neg fun z => hn.1 (List.mem_map.mpr ⟨e, he, z.symm⟩)]
      exact co_nodup hn.2 e he
theorem co_put : ∀ {R : Po} {i : Int} {c : Rat}, (R.map (·.1)).Nodup → ∀ j, co (putR R i c) j = if i = j then c else co R j := by
  intro R i c hn j
  unfold putR
  split
  · rename_i ha
    have hm := any_iff.mp ha
    have gen : ∀ R : Po, (R.map (·.1)).Nodup → co (R.map fun e => if e.1 = i then (e.1, c) else e) j = if i = j then (if i ∈ R.map (·.1) then c else 0) else co R j := by
      intro R
      induction R with
      | nil => intro _; show (0 : Rat) = if i = j then (if i ∈ [] then c else 0) else 0; simp
      | cons e R ih =>
        intro hn
        rw [List.map_cons, List.nodup_cons] at hn
        rw [List.map_cons, co_cons, ih hn.2, co_cons]
        by_cases h1 : e.1 = i
        · rw [if_pos h1]
          show (if e.1 = j then c + _ else _) = _
          have hni : ¬ i ∈ R.map (·.1) := by rw [← h1]; exact hn.1
          by_cases h2 : i = j
          · rw [if_pos (h1.trans h2), if_pos h2, if_neg hni, if_pos h2, if_pos (by rw [List.map_cons, h1]; exact List.mem_cons_self)]; grind
          · rw [if_neg (fun z => h2 (h1.symm.trans z)), if_neg h2, if_neg h2]
            split
            · rename_i z; exact absurd (h1.symm.trans z) h2
            · rfl
        · rw [if_neg h1]
          by_cases h2 : i = j
          · rw [if_neg (fun z => h1 (z.trans h2.symm)), if_pos h2, if_pos h2]
            have : (i ∈ (e :: R).map (·.1)) ↔ i ∈ R.map (·.1) := by
              rw [List.map_cons, List.mem_cons]
              exact ⟨fun h => h.resolve_left fun z => h1 z.symm, Or.inr⟩
            by_cases h3 : i ∈ R.map (·.1)
            · rw [if_pos h3, if_pos (this.mpr h3)]
            · rw [if_neg h3, if_neg fun z => h3 (this.mp z)]
          · rw [if_neg h2, if_neg h2]
    rw [gen R hn]
    by_cases h : i = j
    · rw [if_pos h, if_pos h, if_pos hm]
    · rw [if_neg h, if_neg h]
  · rename_i ha
    have hm : ¬ i ∈ R.map (·.1) := fun h => ha (any_iff.mpr h)
    rw [co_app, co_cons]
    show co R j + (if i = j then c + 0 else 0) = _
    by_cases h : i = j
    · rw [if_pos h, if_pos h, co_none fun x hx z => hm (List.mem_map.mpr ⟨x, hx, by rw [z]; exact h.symm⟩)]; grind
    · rw [if_neg h, if_neg h]; grind
theorem putR_mem {R : Po} {i : Int} {c : Rat} : ∀ e ∈ putR R i c, e ∈ R ∨ e = (i, c) := fun e he => by
  unfold putR at he
  split at he
  · obtain ⟨x, hx, rfl⟩ := List.mem_map.mp he
    split
    · rename_i z; exact .inr (by rw [z])
    · exact .inl hx
  · rcases List.mem_append.mp he with h | h
    · exact .inl h
    · exact .inr (List.mem_singleton.mp h)
theorem putR_len (R : Po) (i : Int) (c : Rat) : (putR R i c).length ≤ R.length + 1 := by
  unfold putR
  split
  · rw [List.length_map]; omega
  · rw [List.length_append]; exact Nat.le_refl _
/-- the terms L done: what has been found -/
structure Done (M k : Nat) (L R : Po) : Prop where
  nd : (R.map (·.1)).Nodup
  eq : ∀ i, co R i = co L i
  len : R.length ≤ L.length
  sub : ∀ e ∈ R, e.1 ∈ L.map (·.1)
  bd : ∀ e ∈ R, Q M k e.2
theorem Done.nil {M k : Nat} : Done M k [] [] := ⟨List.nodup_nil, fun _ => rfl, Nat.le_refl _, (fun e h => nomatch h), (fun e h => nomatch h)⟩
theorem Done.co {M k : Nat} {L R : Po} (h : Done M k L R) (hk : 0 < k) (i : Int) : Q M k (co R i) := by
  by_cases hi : i ∈ R.map (·.1)
  · obtain ⟨e, he, rfl⟩ := List.mem_map.mp hi
    rw [co_nodup h.nd e he]; exact h.bd e he
  · rw [co_none fun x hx z => hi (List.mem_map.mpr ⟨x, hx, z⟩)]; exact Q.zero hk
theorem Done.put {M k n : Nat} {L R : Po} {e : Int × Rat} (h : Done M k L R) (hk : 0 < k) (he : Q M k e.2) (h0 : 0 < M) (hM : M < 2 ^ n) : Done M (k + n + 1) (L ++ [e]) (putR R e.1 (PL.co R e.1 + e.2)) := by
  refine ⟨putR_nodup h.nd, fun i => ?_, Nat.le_trans (putR_len _ _ _) (by rw [List.length_append]; have := h.len; exact Nat.add_le_add_right this 1), fun x hx => ?_, fun x hx => ?_⟩
  · rw [co_put h.nd, co_app, co_cons, ← h.eq]
    show _ = PL.co R i + (if e.1 = i then e.2 + 0 else 0)
    by_cases z : e.1 = i
    · rw [if_pos z, if_pos z, z]; grind
    · rw [if_neg z, if_neg z]; grind
  · rw [List.map_append]
    rcases putR_mem x hx with hx | rfl
    · exact List.mem_append_left _ (h.sub x hx)
    · exact List.mem_append_right _ List.mem_cons_self
  · rcases putR_mem x hx with hx | rfl
    · exact (h.bd x hx).mono (by omega)
    · exact (h.co hk _).add he h0 hM
/-- in the order of the keys, without those that are 0 -/
def fin (R : Po) (ks : List Int) : Po := (ks.filter fun i => decide (co R i ≠ 0)).map fun i => (i, co R i)
theorem co_keys (f : Int → Rat) (j : Int) : ∀ {ks : List Int}, ks.Nodup → co (ks.map fun i => (i, f i)) j = if j ∈ ks then f j else 0
  | [], _ => rfl
  | k :: ks, hn => by
    rw [List.map_cons, co_cons, co_keys f j (List.nodup_cons.mp hn).2]
    show (if k = j then f k + _ else _) = _
    by_cases h : k = j
    · subst h
      rw [if_pos rfl, if_neg (List.nodup_cons.mp hn).1, if_pos List.mem_cons_self]; grind
    · rw [if_neg h]
      by_cases h2 : j ∈ ks
      · rw [if_pos h2, if_pos (List.mem_cons_of_mem _ h2)]
      · rw [if_neg h2, if_neg fun z => (List.mem_cons.mp z).elim (fun z => h z.symm) h2]
theorem Done.fin {M k : Nat} {L R : Po} (h : Done M k L R) (hk : 0 < k) {ks : List Int} (hp : ks.Pairwise (· ≤ ·)) (pm : ks.Perm (R.map (·.1))) : IsCf L (PL.fin R ks) ∧ (∀ e ∈ PL.fin R ks, Q M k e.2) ∧ (PL.fin R ks).length ≤ L.length := by
  have hn : ks.Nodup := pm.nodup_iff.mpr h.nd
  have hf : (ks.filter fun i => decide (PL.co R i ≠ 0)).Nodup := hn.filter _
  refine ⟨⟨⟨?_, fun e he => ?_⟩, fun i => ?_⟩, fun e he => ?_, ?_⟩
  · unfold PL.fin
    rw [List.map_map]
    have : (ks.filter fun i => decide (PL.co R i ≠ 0)).map ((·.1) ∘ fun i => (i, PL.co R i)) = ks.filter fun i => decide (PL.co R i ≠ 0) := List.map_id _
    rw [this]
    exact ((hp.filter _).and hf).imp fun h => by omega
  · obtain ⟨i, hi, rfl⟩ := List.mem_map.mp he
    exact of_decide_eq_true (List.mem_filter.mp hi).2
  · unfold PL.fin
    rw [co_keys _ i hf, ← h.eq]
    split
    · rfl
    · rename_i hi
      apply Classical.byContradiction
      intro hne
      refine hi (List.mem_filter.mpr ⟨pm.mem_iff.mpr ?_, decide_eq_true fun z => hne z.symm⟩)
      apply Classical.byContradiction
      intro hm
      exact hne (co_none fun x hx z => hm (List.mem_map.mpr ⟨x, hx, z⟩)).symm
  · obtain ⟨i, hi, rfl⟩ := List.mem_map.mp he
    exact h.co hk i
  · unfold PL.fin
    rw [List.length_map]
    refine Nat.le_trans (List.length_filter_le _ _) ?_
    rw [pm.length_eq, List.length_map]; exact h.len
end PL
end

section
set_option Elab.async false
set_option linter.all false
set_option maxRecDepth 100000
/-! PL3: a poly through given places, by differences. -/
namespace PL
def upB : List Int → Bool
  | a :: b :: r => decide (a < b) && upB (b :: r)
  | _ => true
theorem upB_ok : ∀ {l : List Int}, upB l = true → l.Pairwise (· < ·)
  | [], _ => List.Pairwise.nil
  | [a], _ => by simp
  | a :: b :: r, h => by
    unfold upB at h
    rw [Bool.and_eq_true] at h
    have h1 := of_decide_eq_true h.1
    have h2 := upB_ok h.2
    refine List.pairwise_cons.mpr ⟨fun x hx => ?_, h2⟩
    rcases List.mem_cons.mp hx with rfl | hx
    · exact h1
    · have := (List.pairwise_cons.mp h2).1 x hx; omega
def canB (P : Po) : Bool := upB (P.map (·.1)) && P.all fun e => decide (e.2 ≠ 0)
theorem canB_ok {P : Po} (h : canB P = true) : Can P := by
  unfold canB at h
  rw [Bool.and_eq_true] at h
  exact ⟨upB_ok h.1, fun e he => of_decide_eq_true (List.all_eq_true.mp h.2 e he)⟩
def chk (L P : Po) : Bool := canB P && (L ++ P).all fun e => decide (co P e.1 = co L e.1)
theorem chk_ok {L P : Po} (h : chk L P = true) : IsCf L P := by
  unfold chk at h
  rw [Bool.and_eq_true] at h
  refine ⟨canB_ok h.1, fun i => ?_⟩
  have hm := List.all_eq_true.mp h.2
  by_cases hi : i ∈ (L ++ P).map (·.1)
  · obtain ⟨e, he, rfl⟩ := List.mem_map.mp hi
    exact of_decide_eq_true (hm e he)
  · rw [co_none fun e he z => hi (List.mem_map.mpr ⟨e, List.mem_append_right _ he, z⟩), co_none fun e he z => hi (List.mem_map.mpr ⟨e, List.mem_append_left _ he, z⟩)]
def pw : Nat → Po
  | 0 => [(0, (1 : Rat))]
  | 1 => [(0, (-1 : Rat)), (1, (1 : Rat))]
  | 2 => [(0, (1 : Rat)), (1, (-3 / 2 : Rat)), (2, (1 / 2 : Rat))]
  | 3 => [(0, (-1 : Rat)), (1, (11 / 6 : Rat)), (2, (-1 : Rat)), (3, (1 / 6 : Rat))]
  | 4 => [(0, (1 : Rat)), (1, (-25 / 12 : Rat)), (2, (35 / 24 : Rat)), (3, (-5 / 12 : Rat)), (4, (1 / 24 : Rat))]
  | 5 => [(0, (-1 : Rat)), (1, (137 / 60 : Rat)), (2, (-15 / 8 : Rat)), (3, (17 / 24 : Rat)), (4, (-1 / 8 : Rat)), (5, (1 / 120 : Rat))]
  | _ => [(0, (1 : Rat)), (1, (-49 / 20 : Rat)), (2, (203 / 90 : Rat)), (3, (-49 / 48 : Rat)), (4, (35 / 144 : Rat)), (5, (-7 / 240 : Rat)), (6, (1 / 720 : Rat))]
def lin (k : Nat) : Po := [(0, ((-(k : Int) - 1 : Int) : Rat)), (1, 1)]
def tk (k : Nat) : Po := scaled ((k + 1 : Nat) : Rat) (pw (k + 1))
def qB (M n : Nat) (L : Po) : Bool := L.all fun e => decide (e.2.den ∣ M) && decide (e.2.num.natAbs < 2 ^ n)
theorem qB_ok {M n : Nat} {L : Po} (h : qB M n L = true) : ∀ e ∈ L, Q M n e.2 := fun e he => by
  have := List.all_eq_true.mp h e he
  rw [Bool.and_eq_true] at this
  exact ⟨of_decide_eq_true this.1, of_decide_eq_true this.2⟩
def pwB (k : Nat) : Bool := chk (timesAll (pw k) (lin k)) (tk k) && chk (scaled (((k + 1 : Nat) : Rat)⁻¹) (tk k)) (pw (k + 1)) && chk (lin k) (lin k) && qB 720 20 (pw k) && qB 720 20 (lin k) && qB 720 20 (tk k) && qB 720 20 (timesAll (pw k) (lin k)) && qB 720 20 (scaled (((k + 1 : Nat) : Rat)⁻¹) (tk k)) && (pw k).all (fun e => decide (0 ≤ e.1) && decide (e.1 ≤ k)) && decide ((pw k).length ≤ 7) && decide ((tk k).length ≤ 7)
theorem pw_all : ∀ k : Nat, k < 6 → pwB k = true := by decide +kernel
theorem pw_at : ∀ k : Nat, k < 6 → ∀ s : Nat, s < 6 → ev (pw k) ((s + 1 : Nat) : Rat) = (([[1, 1, 1, 1, 1, 1], [0, 1, 2, 3, 4, 5], [0, 0, 1, 3, 6, 10], [0, 0, 0, 1, 4, 10], [0, 0, 0, 0, 1, 5], [0, 0, 0, 0, 0, 1]] : List (List Rat))[k]!)[s]! := by decide +kernel
def dfl (l : List Rat) : List Rat := List.zipWith (fun a b => b - a) l (l.drop 1)
/-- what is still to be added -/
def NT : Nat → Nat → List Rat → Rat → Rat
  | 0, _, _, _ => 0
  | f + 1, k, l, s => l.headD 0 * ev (pw k) s + NT f (k + 1) (dfl l) s
theorem dfl_len (l : List Rat) : (dfl l).length = l.length - 1 := by
  unfold dfl
  rw [List.length_zipWith, List.length_drop]; omega
theorem NT_at {l : List Rat} (hl : l.length ≤ 6) : ∀ s : Nat, s < l.length → NT l.length 0 l ((s + 1 : Nat) : Rat) = l.getD s 0 := by
  intro s hs
  have h := fun (k : Nat) (hk : k < 6) => pw_at k hk s (by omega)
  have h0 := h 0 (by decide)
  have h1 := h 1 (by decide)
  have h2 := h 2 (by decide)
  have h3 := h 3 (by decide)
  have h4 := h 4 (by decide)
  have h5 := h 5 (by decide)
  match l, hl with
  | [], _ => exact absurd hs (Nat.not_lt_zero _)
  | [a], _ =>
    simp only [NT, dfl, List.length_cons, List.length_nil, List.drop_succ_cons, List.drop_zero, List.zipWith_cons_cons, List.zipWith_nil_right, List.headD_cons, Nat.zero_add] at hs ⊢
    rw [h0]
    match s, hs with
    | 0, _ => simp; try grind
  | [a, b], _ =>
    simp only [NT, dfl, List.length_cons, List.length_nil, List.drop_succ_cons, List.drop_zero, List.zipWith_cons_cons, List.zipWith_nil_right, List.headD_cons, Nat.zero_add, Nat.reduceAdd] at hs ⊢
    rw [h0, h1]
    match s, hs with
    | 0, _ => simp; try grind
    | 1, _ => simp; try grind
  | [a, b, c], _ =>
    simp only [NT, dfl, List.length_cons, List.length_nil, List.drop_succ_cons, List.drop_zero, List.zipWith_cons_cons, List.zipWith_nil_right, List.headD_cons, Nat.zero_add, Nat.reduceAdd] at hs ⊢
    rw [h0, h1, h2]
    match s, hs with
    | 0, _ => simp; try grind
    | 1, _ => simp; try grind
    | 2, _ => simp; try grind
  | [a, b, c, d], _ =>
    simp only [NT, dfl, List.length_cons, List.length_nil, List.drop_succ_cons, List.drop_zero, List.zipWith_cons_cons, List.zipWith_nil_right, List.headD_cons, Nat.zero_add, Nat.reduceAdd] at hs ⊢
    rw [h0, h1, h2, h3]
    match s, hs with
    | 0, _ => simp; try grind
    | 1, _ => simp; try grind
    | 2, _ => simp; try grind
    | 3, _ => simp; try grind
  | [a, b, c, d, e], _ =>
    simp only [NT, dfl, List.length_cons, List.length_nil, List.drop_succ_cons, List.drop_zero, List.zipWith_cons_cons, List.zipWith_nil_right, List.headD_cons, Nat.zero_add, Nat.reduceAdd] at hs ⊢
    rw [h0, h1, h2, h3, h4]
    match s, hs with
    | 0, _ => simp; try grind
    | 1, _ => simp; try grind
    | 2, _ => simp; try grind
    | 3, _ => simp; try grind
    | 4, _ => simp; try grind
  | [a, b, c, d, e, f], _ =>
    simp only [NT, dfl, List.length_cons, List.length_nil, List.drop_succ_cons, List.drop_zero, List.zipWith_cons_cons, List.zipWith_nil_right, List.headD_cons, Nat.zero_add, Nat.reduceAdd] at hs ⊢
    rw [h0, h1, h2, h3, h4, h5]
    match s, hs with
    | 0, _ => simp; try grind
    | 1, _ => simp; try grind
    | 2, _ => simp; try grind
    | 3, _ => simp; try grind
    | 4, _ => simp; try grind
    | 5, _ => simp; try grind
  | a :: b :: c :: d :: e :: f :: g :: r, hl => exact absurd hl (by simp)
end PL
end

section
set_option Elab.async false
set_option linter.all false
/-! PL4: how great the numbers of a sum of powers get. -/
namespace PL
theorem co_q {N m k : Nat} (h0 : 0 < N) (hM : N < 2 ^ m) (hk : 0 < k) (i : Int) : ∀ {L : Po}, (∀ e ∈ L, Q N k e.2) → Q N (k + (m + 1) * L.length) (co L i)
  | [], _ => Q.zero (by omega)
  | e :: L, h => by
    have ih := co_q h0 hM hk i (L := L) fun x hx => h x (List.mem_cons_of_mem _ hx)
    have h1 := (h e List.mem_cons_self).mono (Nat.le_add_right k ((m + 1) * L.length))
    rw [co_cons, List.length_cons, Nat.mul_succ]
    split
    · exact (h1.add ih h0 hM).mono (by omega)
    · exact ih.mono (by omega)
theorem ev_q {N m k : Nat} (h0 : 0 < N) (hM : N < 2 ^ m) (hk : 0 < k) (s : Rat) : ∀ {L : Po}, (∀ e ∈ L, Q N k (e.2 * s ^ e.1)) → Q N (k + (m + 1) * L.length) (ev L s)
  | [], _ => Q.zero (by omega)
  | e :: L, h => by
    have ih := ev_q h0 hM hk s (L := L) fun x hx => h x (List.mem_cons_of_mem _ hx)
    have h1 := (h e List.mem_cons_self).mono (Nat.le_add_right k ((m + 1) * L.length))
    rw [List.length_cons, Nat.mul_succ]
    show Q N _ (e.2 * s ^ e.1 + ev L s)
    exact (h1.add ih h0 hM).mono (by omega)
theorem Can.co {P : Po} (h : Can P) : ∀ e ∈ P, PL.co P e.1 = e.2 := by
  induction P with
  | nil => exact fun e h => nomatch h
  | cons f P ih =>
    intro e hm
    rcases List.mem_cons.mp hm with rfl | hm
    · exact h.head
    · have := h.lt e hm
      rw [co_cons, if_neg (by omega)]
      exact ih h.tail e hm
theorem IsCf.q {N m k : Nat} {L P : Po} (h : IsCf L P) (h0 : 0 < N) (hM : N < 2 ^ m) (hk : 0 < k) (hL : ∀ e ∈ L, Q N k e.2) : ∀ e ∈ P, Q N (k + (m + 1) * L.length) e.2 := fun e he => by
  rw [← h.can.co e he, h.eq]
  exact co_q h0 hM hk _ hL
/-- of the keys in their order -/
theorem can_of {R : Po} (hn : (R.map (·.1)).Nodup) (hz : ∀ e ∈ R, e.2 ≠ 0) {ks : List Int} (hp : ks.Pairwise (· ≤ ·)) (pm : ks.Perm (R.map (·.1))) : Can (ks.map fun i => (i, co R i)) ∧ ∀ e ∈ ks.map fun i => (i, co R i), e ∈ R := by
  have hk : ks.Nodup := pm.nodup_iff.mpr hn
  have mem : ∀ e ∈ ks.map fun i => (i, co R i), e ∈ R := fun e he => by
    obtain ⟨i, hi, rfl⟩ := List.mem_map.mp he
    obtain ⟨x, hx, rfl⟩ := List.mem_map.mp (pm.mem_iff.mp hi)
    show (x.1, co R x.1) ∈ R
    rw [co_nodup hn x hx]; exact hx
  refine ⟨⟨?_, fun e he => hz e (mem e he)⟩, mem⟩
  rw [List.map_map]
  have : ks.map ((·.1) ∘ fun i => (i, co R i)) = ks := List.map_id _
  rw [this]
  exact (hp.and hk).imp fun h => by omega
end PL
end

section
set_option Elab.async false
set_option linter.all false
set_option maxRecDepth 100000
/-! PL5: sums of powers below y. -/
namespace PL
def tb : Nat → Po
  | 0 => [(1, (1 : Rat))]
  | 1 => [(1, (-1 / 2 : Rat)), (2, (1 / 2 : Rat))]
  | 2 => [(1, (1 / 6 : Rat)), (2, (-1 / 2 : Rat)), (3, (1 / 3 : Rat))]
  | 3 => [(2, (1 / 4 : Rat)), (3, (-1 / 2 : Rat)), (4, (1 / 4 : Rat))]
  | 4 => [(1, (-1 / 30 : Rat)), (3, (1 / 3 : Rat)), (4, (-1 / 2 : Rat)), (5, (1 / 5 : Rat))]
  | 5 => [(2, (-1 / 12 : Rat)), (4, (5 / 12 : Rat)), (5, (-1 / 2 : Rat)), (6, (1 / 6 : Rat))]
  | 6 => [(1, (1 / 42 : Rat)), (3, (-1 / 6 : Rat)), (5, (1 / 2 : Rat)), (6, (-1 / 2 : Rat)), (7, (1 / 7 : Rat))]
  | 7 => [(2, (1 / 12 : Rat)), (4, (-7 / 24 : Rat)), (6, (7 / 12 : Rat)), (7, (-1 / 2 : Rat)), (8, (1 / 8 : Rat))]
  | 8 => [(1, (-1 / 30 : Rat)), (3, (2 / 9 : Rat)), (5, (-7 / 15 : Rat)), (7, (2 / 3 : Rat)), (8, (-1 / 2 : Rat)), (9, (1 / 9 : Rat))]
  | 9 => [(2, (-3 / 20 : Rat)), (4, (1 / 2 : Rat)), (6, (-7 / 10 : Rat)), (8, (3 / 4 : Rat)), (9, (-1 / 2 : Rat)), (10, (1 / 10 : Rat))]
  | 10 => [(1, (5 / 66 : Rat)), (3, (-1 / 2 : Rat)), (5, (1 : Rat)), (7, (-1 : Rat)), (9, (5 / 6 : Rat)), (10, (-1 / 2 : Rat)), (11, (1 / 11 : Rat))]
  | 11 => [(2, (5 / 12 : Rat)), (4, (-11 / 8 : Rat)), (6, (11 / 6 : Rat)), (8, (-11 / 8 : Rat)), (10, (11 / 12 : Rat)), (11, (-1 / 2 : Rat)), (12, (1 / 12 : Rat))]
  | 12 => [(1, (-691 / 2730 : Rat)), (3, (5 / 3 : Rat)), (5, (-33 / 10 : Rat)), (7, (22 / 7 : Rat)), (9, (-11 / 6 : Rat)), (11, (1 : Rat)), (12, (-1 / 2 : Rat)), (13, (1 / 13 : Rat))]
  | 13 => [(2, (-691 / 420 : Rat)), (4, (65 / 12 : Rat)), (6, (-143 / 20 : Rat)), (8, (143 / 28 : Rat)), (10, (-143 / 60 : Rat)), (12, (13 / 12 : Rat)), (13, (-1 / 2 : Rat)), (14, (1 / 14 : Rat))]
  | 14 => [(1, (7 / 6 : Rat)), (3, (-691 / 90 : Rat)), (5, (91 / 6 : Rat)), (7, (-143 / 10 : Rat)), (9, (143 / 18 : Rat)), (11, (-91 / 30 : Rat)), (13, (7 / 6 : Rat)), (14, (-1 / 2 : Rat)), (15, (1 / 15 : Rat))]
  | _ => [(2, (35 / 4 : Rat)), (4, (-691 / 24 : Rat)), (6, (455 / 12 : Rat)), (8, (-429 / 16 : Rat)), (10, (143 / 12 : Rat)), (12, (-91 / 24 : Rat)), (14, (5 / 4 : Rat)), (15, (-1 / 2 : Rat)), (16, (1 / 16 : Rat))]
def sbl : Nat → Po
  | 0 => [(0, -1), (1, 1)]
  | e + 1 => tb (e + 1)
/-- n over k, step by step -/
def chI (n : Int) : Nat → Int
  | 0 => 1
  | i + 1 => chI n i * (n - (i : Nat)) / ((i : Nat) + 1)
def chR (n j : Nat) : Rat := ((chI ((n : Nat) + 1) j : Int) : Rat)
/-- what is summed up for tb n -/
def accL (n : Nat) : Nat → Po
  | 0 => [((n : Int) + 1, 1)]
  | j + 1 => accL n j ++ scaled (-1) (scaled (chR n j) (tb j))
def nxB (n : Nat) : Bool := chk (scaled (((n + 1 : Nat) : Rat)⁻¹) (accL n n)) (tb n) && qB 12252240 12 (tb n) && canB (tb n) && decide ((tb n).length ≤ 9) && (tb n).all (fun e => decide (0 ≤ e.1) && decide (e.1 ≤ 16)) && chk (tb 0 ++ scaled (-1) [(0, 1)]) (sbl 0)
theorem nx_all : ∀ n : Nat, n < 16 → nxB n = true := by decide +kernel
def chB (n j : Nat) : Bool := canB (scaled (chR n j) (tb j)) && decide ((chR n j).num.natAbs < 2 ^ 14)
theorem ch_all : ∀ n : Nat, n < 16 → ∀ j : Nat, j < n → chB n j = true := by decide +kernel
def stB (e : Nat) : Bool := decide (ev (sbl e) ((1 : Nat) : Rat) = 0) && (List.range 13).all fun y => decide (ev (sbl e) ((y + 1 + 1 : Nat) : Rat) = ev (sbl e) ((y + 1 : Nat) : Rat) + ((y + 1 : Nat) : Rat) ^ (e : Int))
theorem st_all : ∀ e : Nat, e < 16 → stB e = true := by decide +kernel
end PL
end

section
set_option Elab.async false
set_option linter.all false
set_option maxRecDepth 100000
/-! PL6: sums of powers over rising numbers. -/
namespace PL
def ins (e : Int × Rat) : Po → Po
  | [] => [e]
  | f :: P => if e.1 < f.1 then e :: f :: P else if e.1 = f.1 then (f.1, f.2 + e.2) :: P else f :: ins e P
theorem ins_co (e : Int × Rat) (i : Int) : ∀ P : Po, co (ins e P) i = co P i + if e.1 = i then e.2 else 0
  | [] => by
    show co [e] i = 0 + _
    rw [co_cons]
    show (if e.1 = i then e.2 + 0 else 0) = _
    split <;> grind
  | f :: P => by
    unfold ins
    split
    · rw [co_cons]
      split <;> grind
    · split
      · rename_i h
        rw [co_cons, co_cons]
        show (if f.1 = i then f.2 + e.2 + co P i else co P i) = _
        rw [h]
        split <;> grind
      · rw [co_cons, co_cons, ins_co e i P]
        split <;> grind
theorem ins_mem (e : Int × Rat) : ∀ {P : Po} {x : Int × Rat}, x ∈ ins e P → x.1 = e.1 ∨ ∃ y ∈ P, y.1 = x.1
  | [], x, h => .inl (by rw [List.mem_singleton.mp h])
  | f :: P, x, h => by
    unfold ins at h
    split at h
    · rcases List.mem_cons.mp h with rfl | h
      · exact .inl rfl
      · exact .inr ⟨x, h, rfl⟩
    · split at h
      · rcases List.mem_cons.mp h with rfl | h
        · exact .inr ⟨f, List.mem_cons_self, rfl⟩
        · exact .inr ⟨x, List.mem_cons_of_mem _ h, rfl⟩
      · rcases List.mem_cons.mp h with rfl | h
        · exact .inr ⟨x, List.mem_cons_self, rfl⟩
        · rcases ins_mem e h with h | ⟨y, hy, z⟩
          · exact .inl h
          · exact .inr ⟨y, List.mem_cons_of_mem _ hy, z⟩
theorem ins_up (e : Int × Rat) : ∀ {P : Po}, (P.map (·.1)).Pairwise (· < ·) → ((ins e P).map (·.1)).Pairwise (· < ·)
  | [], _ => by simp [ins]
  | f :: P, h => by
    rw [List.map_cons, List.pairwise_cons] at h
    unfold ins
    split
    · rename_i hl
      rw [List.map_cons, List.map_cons]
      refine List.pairwise_cons.mpr ⟨fun x hx => ?_, List.pairwise_cons.mpr h⟩
      rcases List.mem_cons.mp hx with rfl | hx
      · exact hl
      · have := h.1 x hx; omega
    · split
      · rw [List.map_cons]
        exact List.pairwise_cons.mpr h
      · rename_i h1 h2
        rw [List.map_cons]
        refine List.pairwise_cons.mpr ⟨fun x hx => ?_, ins_up e h.2⟩
        obtain ⟨y, hy, rfl⟩ := List.mem_map.mp hx
        rcases ins_mem e hy with z | ⟨w, hw, z⟩
        · rw [z]; omega
        · rw [← z]; exact h.1 _ (List.mem_map.mpr ⟨w, hw, rfl⟩)
def cfP (L : Po) : Po := (L.foldl (fun P e => ins e P) []).filter fun e => decide (e.2 ≠ 0)
theorem fold_ok : ∀ (L P : Po), (P.map (·.1)).Pairwise (· < ·) → ((L.foldl (fun P e => ins e P) P).map (·.1)).Pairwise (· < ·) ∧ ∀ i, co (L.foldl (fun P e => ins e P) P) i = co P i + co L i
  | [], P, h => ⟨h, fun i => by show co P i = co P i + 0; grind⟩
  | e :: L, P, h => by
    obtain ⟨h1, h2⟩ := fold_ok L (ins e P) (ins_up e h)
    refine ⟨h1, fun i => ?_⟩
    rw [List.foldl_cons, h2 i, ins_co, co_cons]
    split <;> grind
theorem co_filter : ∀ {P : Po}, (P.map (·.1)).Pairwise (· < ·) → ∀ i, co (P.filter fun e => decide (e.2 ≠ 0)) i = co P i
  | [], _, i => rfl
  | e :: P, h, i => by
    rw [List.map_cons, List.pairwise_cons] at h
    have ih := co_filter h.2 i
    by_cases hz : e.2 = 0
    · rw [List.filter_cons_of_neg (by simpa using hz), ih, co_cons, hz]
      split <;> grind
    · rw [List.filter_cons_of_pos (by simpa using hz), co_cons, co_cons, ih]
theorem cfP_ok (L : Po) : IsCf L (cfP L) := by
  obtain ⟨h1, h2⟩ := fold_ok L [] List.Pairwise.nil
  refine ⟨⟨?_, fun e he => of_decide_eq_true (List.mem_filter.mp he).2⟩, fun i => ?_⟩
  · exact h1.sublist (List.Sublist.map _ List.filter_sublist)
  · unfold cfP
    rw [co_filter h1, h2 i]
    show (0 : Rat) + _ = _
    grind
/-- summed below, term by term -/
def smL : Po → Po
  | [] => []
  | e :: P => scaled e.2 (sbl e.1.toNat) ++ smL P
def hr (P : Po) (e : Nat) : Po := timesAll P [((e : Int), 1)]
def tl : Po → List Nat → Po
  | P, [] => P
  | P, [e] => cfP (cfP (smL (hr P e)) ++ hr P e)
  | P, e :: es => tl (cfP (smL (hr P e))) es
def told0 (es : List Nat) : Po := tl [(0, 1)] es
def fo (P : Po) (es : List Nat) : Po := es.foldl (fun P e => cfP (smL (hr P e))) P
theorem tl_app : ∀ (es : List Nat) (P : Po) (e : Nat), tl P (es ++ [e]) = cfP (cfP (smL (hr (fo P es) e)) ++ hr (fo P es) e)
  | [], P, e => rfl
  | [a], P, e => rfl
  | a :: b :: es, P, e => by
    have := tl_app (b :: es) (cfP (smL (hr P a))) e
    exact this
theorem smL_app : ∀ A B : Po, smL (A ++ B) = smL A ++ smL B
  | [], B => rfl
  | e :: A, B => by
    rw [List.cons_append]
    show _ ++ smL (A ++ B) = (_ ++ smL A) ++ smL B
    rw [smL_app A B, List.append_assoc]
theorem hr_map (e : Nat) : ∀ P : Po, hr P e = P.map fun x => (x.1 + (e : Int), x.2 * 1)
  | [] => rfl
  | x :: P => by
    have := hr_map e P
    show timesOne x [((e : Int), 1)] ++ hr P e = _
    rw [this]; rfl
theorem hr_can {P : Po} (h : Can P) (e : Nat) : Can (hr P e) := by
  rw [hr_map]
  refine ⟨?_, fun x hx => ?_⟩
  · rw [List.map_map, List.pairwise_map]
    have := h.up
    rw [List.pairwise_map] at this
    exact this.imp fun h => by show _ + (e : Int) < _ + (e : Int); omega
  · obtain ⟨y, hy, rfl⟩ := List.mem_map.mp hx
    have := h.nz y hy
    show y.2 * 1 ≠ 0
    rwa [Rat.mul_one]
def fnB (es : List Nat) : Bool :=
  let P := fo [(0, 1)] es
  canB P && qB 87178291200 24 P && decide (P.length ≤ 17) && P.all fun e => decide (0 ≤ e.1) && decide (e.1 ≤ 12)
def stepW (s e : Nat) (w : List (List Int × Int)) : List (List Int × Int) := w.flatMap fun p => (List.range (s - ((p.1 ++ [0]).foldl max 0).toNat)).map fun (k : Nat) => (p.1.drop (p.1.length - 1) ++ [1 + (p.1 ++ [0]).foldl max 0 + (k : Int)], p.2 * (1 + (p.1 ++ [0]).foldl max 0 + (k : Int)) ^ e)
def runW (s : Nat) : List Nat → List (List Int × Int) → List (List Int × Int)
  | [], w => w
  | e :: es, w => runW s es (stepW s e w)
def pwrs (s : Nat) (es : List Nat) : Int := ((runW s es [([], 1)]).map (·.2)).sum
def all4 : List (List Nat) := [[]] ++ (List.range 4).map (fun a => [a]) ++ (List.range 4).flatMap (fun a => (List.range 4).map fun b => [a, b]) ++ (List.range 4).flatMap (fun a => (List.range 4).flatMap fun b => (List.range 4).map fun c => [a, b, c]) ++ (List.range 4).flatMap (fun a => (List.range 4).flatMap fun b => (List.range 4).flatMap fun c => (List.range 4).map fun d => [a, b, c, d])
def tlB (es : List Nat) : Bool :=
  let P := told0 es
  canB P && qB 87178291200 24 P && decide (P.length ≤ 17)
def evB (es : List Nat) : Bool :=
  let P := told0 es
  (List.range (if es.length > 2 then 7 else 12)).all fun s => decide (ev P ((s + 1 : Nat) : Rat) = ((pwrs (s + 1) es : Int) : Rat))
/-- of the powers at the ends -/
def edB (es : List Nat) : Bool :=
  let P := told0 es
  match es with
  | [] => decide (P = [(0, 1)])
  | _ => decide ((P.getLastD (0, 0)).1 = ((es.sum + es.length : Nat) : Int)) && decide (P ≠ []) && P.all (fun e => decide (0 < e.1) && decide (e.1 ≤ 16)) && (match es with | [e] => decide (P = cfP (sbl e ++ [((e : Int), 1)])) | _ => true)
end PL
end

section
set_option Elab.async false
set_option linter.all false
set_option maxRecDepth 100000
/-! PL7: worked out. -/
namespace PL
theorem fn_all : (all4.take 85).all fnB = true := by decide +kernel
theorem tl_all : all4.all tlB = true := by decide +kernel
theorem ed_all : all4.all edB = true := by decide +kernel
theorem ev_all : all4.all evB = true := by decide +kernel
theorem fin_all : told0 [0, 0] = [(1, (-1 / 2 : Rat)), (2, (1 / 2 : Rat))] := by decide +kernel
end PL
end

section
set_option Elab.async false
set_option linter.all false
set_option maxRecDepth 100000
/-! PL8: more that is worked out. -/
namespace PL
def TT (e : Nat) : Nat → Nat
  | 0 => 0
  | i + 1 => TT e i + (i + 1) ^ e
theorem tt_all : ∀ e : Nat, e < 13 → ∀ i : Nat, i < 14 → ev (sbl e) ((i + 1 : Nat) : Rat) = ((TT e i : Nat) : Rat) := by decide +kernel
theorem tt_lt : ∀ e : Nat, e < 13 → ∀ i : Nat, i < 15 → TT e i < 2 ^ 60 := by decide +kernel
theorem last_all : ∀ e : Nat, e < 13 → (sbl e).getLast? = some ((e : Int) + 1, (((e + 1 : Nat) : Rat))⁻¹) := by decide +kernel
theorem sblc_all : ∀ e : Nat, e < 16 → canB (sbl e) = true := by decide +kernel
def pbB (es : List Nat) : Bool := (List.range (if es.length > 2 then 7 else 12)).all fun s => decide ((pwrs (s + 1) es).natAbs < 2 ^ 100)
theorem pb_all : all4.all pbB = true := by decide +kernel
theorem mem_all4 : ∀ {es : List Nat}, es.length ≤ 4 → (∀ e ∈ es, e ≤ 3) → es ∈ all4
  | [], _, _ => by simp [all4]
  | [a], _, h => by
    have h1 := h a (by simp)
    simp [all4]
    omega
  | [a, b], _, h => by
    have h1 := h a (by simp)
    have h2 := h b (by simp)
    simp [all4]
    omega
  | [a, b, c], _, h => by
    have h1 := h a (by simp)
    have h2 := h b (by simp)
    have h3 := h c (by simp)
    exact List.mem_append_left _ (List.mem_append_right _ (List.mem_flatMap.mpr ⟨a, List.mem_range.mpr (by omega), List.mem_flatMap.mpr ⟨b, List.mem_range.mpr (by omega), List.mem_map.mpr ⟨c, List.mem_range.mpr (by omega), rfl⟩⟩⟩))
  | [a, b, c, d], _, h => by
    have h1 := h a (by simp)
    have h2 := h b (by simp)
    have h3 := h c (by simp)
    have h4 := h d (by simp)
    exact List.mem_append_right _ (List.mem_flatMap.mpr ⟨a, List.mem_range.mpr (by omega), List.mem_flatMap.mpr ⟨b, List.mem_range.mpr (by omega), List.mem_flatMap.mpr ⟨c, List.mem_range.mpr (by omega), List.mem_map.mpr ⟨d, List.mem_range.mpr (by omega), rfl⟩⟩⟩⟩)
  | _ :: _ :: _ :: _ :: _ :: _, hl, _ => absurd hl (by simp)
theorem mem_85 {es : List Nat} (hl : es.length ≤ 3) (h : ∀ e ∈ es, e ≤ 3) : es ∈ all4.take 85 := by
  have e : all4.take 85 = [[]] ++ (List.range 4).map (fun a => [a]) ++ (List.range 4).flatMap (fun a => (List.range 4).map fun b => [a, b]) ++ (List.range 4).flatMap (fun a => (List.range 4).flatMap fun b => (List.range 4).map fun c => [a, b, c]) := by decide +kernel
  rw [e]
  match es, hl, h with
  | [], _, _ => simp
  | [a], _, h =>
    have h1 := h a (by simp)
    simp
    omega
  | [a, b], _, h =>
    have h1 := h a (by simp)
    have h2 := h b (by simp)
    simp
    omega
  | [a, b, c], _, h =>
    have h1 := h a (by simp)
    have h2 := h b (by simp)
    have h3 := h c (by simp)
    exact List.mem_append_right _ (List.mem_flatMap.mpr ⟨a, List.mem_range.mpr (by omega), List.mem_flatMap.mpr ⟨b, List.mem_range.mpr (by omega), List.mem_map.mpr ⟨c, List.mem_range.mpr (by omega), rfl⟩⟩⟩)
  | _ :: _ :: _ :: _ :: _, hl, _ => exact absurd hl (by simp)
end PL
end

section
set_option Elab.async false
set_option linter.all false
set_option maxRecDepth 100000
set_option maxHeartbeats 4000000
/-! printed by gen.py -/
namespace K30
open PySem PySem.Spec PyProof.Rows L2 DL
def top (i : Nat) : Stmt := PySem.Challenge.pw_dicevalues_k30_sums_of_powers.main.body.getD i (.Pass ⟨0, 0, 0, 0⟩)
abbrev s_is_integer : Stmt := top 2
abbrev s_is_fraction : Stmt := top 3
abbrev s_fraction_of : Stmt := top 4
abbrev s_fraction_sum : Stmt := top 5
abbrev s_fraction_times : Stmt := top 6
abbrev s_is_poly : Stmt := top 10
abbrev s_poly_of : Stmt := top 11
abbrev s_poly_sum : Stmt := top 12
abbrev s_poly_scaled : Stmt := top 13
abbrev s_poly_less : Stmt := top 14
abbrev s_poly_times : Stmt := top 15
abbrev s_whole_power : Stmt := top 16
abbrev s_poly_at : Stmt := top 17
abbrev s_choose : Stmt := top 18
abbrev s_sum_below : Stmt := top 19
abbrev s_summed_below : Stmt := top 20
abbrev s_power_sum : Stmt := top 21
abbrev s_law_open_cells : Stmt := top 23
abbrev s_law_pick : Stmt := top 24
abbrev s_law_of : Stmt := top 25
abbrev s_law_fraction : Stmt := top 26
abbrev s_law_plus : Stmt := top 27
abbrev s_law_by : Stmt := top 28
abbrev s_law_drawn_fraction : Stmt := top 29
abbrev s_law_poly : Stmt := top 30
abbrev s_law_at : Stmt := top 31
abbrev s_law_powers : Stmt := top 32
abbrev s_law : Stmt := top 33
def c_ONE : PyData := .tuple [.int 1, .int 1]
def c_ZERO : PyData := .tuple [.int 0, .int 1]
structure Txt (K : PySem.W.Frag) (mg : Str → Option Value) : Prop where
  n_abs : mg "abs" = none
  n_all : mg "all" = none
  n_bool : mg "bool" = none
  n_enumerate : mg "enumerate" = none
  n_int : mg "int" = none
  n_isinstance : mg "isinstance" = none
  n_len : mg "len" = none
  n_list : mg "list" = none
  n_max : mg "max" = none
  n_range : mg "range" = none
  n_repr : mg "repr" = none
  n_sorted : mg "sorted" = none
  n_sum : mg "sum" = none
  n_tuple : mg "tuple" = none
  n_zip : mg "zip" = none
  i_gcd : mg "gcd" = some (.builtin "math.gcd")
  w_ONE : ∃ v, mg "ONE" = some v ∧ ∃ u, RelV u v ∧ ∀ F, Rp K F u c_ONE
  w_ZERO : ∃ v, mg "ZERO" = some v ∧ ∃ u, RelV u v ∧ ∀ F, Rp K F u c_ZERO
def m_is_integer : Ev → M Fl :=
  mRet (mAndV (mIsi "int" (mName 0)) (mNotV (mIsi "bool" (mName 0))))
def mf_is_integer : List PyData → M PyData := fnM false 1 m_is_integer
theorem sc_is_integer : FnScope ["value"] ["value"] (defScope s_is_integer) := ⟨rfl, rfl, rfl, by decide +kernel, rfl, by decide +kernel, by decide +kernel⟩
theorem w_is_integer {P : Program} {w : World} {K : PySem.W.Frag} {mg : Str → Option Value} {base : Heap} {k : Nat} {f : Addr} {fd : FuncData} (F : Fun K "is_integer" "is_integer" s_is_integer f fd) (T : Txt K mg) : FnM P w K mg base (k + 1) f fd ["value"] false (fnM false 1 (m_is_integer)) :=
  fnM_of F sc_is_integer fun cdv A outer s H G =>
    (sss_one (ss_ret (se_and (se_isi T.n_isinstance (SE.toB (se_name 0)) T.n_int) (se_one (se_not (se_isi T.n_isinstance (SE.toB (se_name 0)) T.n_bool))))))
def m_is_fraction : Ev → M Fl :=
  mSeq (mIfS (mOrT (mNotT (mAsB (mIsi "tuple" (mName 0)))) (mOrT (mAsB (mOp neD (mCl lenD (mCons (mName 0) (mNil))) (mC (.int 2)))) (mNotT (mAsB (mCl allD (mCons (mFrz (mLc (mSeqI (mName 0)) (gSet 1) (mYes) (mCall 1 mf_is_integer (mCons (mName 1) (mNil))) [1])) (mNil))))))) (mRet (mC (.bool false))) (mPass)) (mRet (mAndV (mOp gtD (mOp ixD (mName 0) (mC (.int 1))) (mC (.int 0))) (mOp eqD (mCl gcdD (mCons (mOp ixD (mName 0) (mC (.int 0))) (mCons (mOp ixD (mName 0) (mC (.int 1))) (mNil)))) (mC (.int 1)))))
def mf_is_fraction : List PyData → M PyData := fnM false 2 m_is_fraction
theorem sc_is_fraction : FnScope ["value", "x"] ["value"] (defScope s_is_fraction) := ⟨rfl, rfl, rfl, by decide +kernel, rfl, by decide +kernel, by decide +kernel⟩
theorem w_is_fraction {P : Program} {w : World} {K : PySem.W.Frag} {mg : Str → Option Value} {base : Heap} {k : Nat} {f : Addr} {fd : FuncData} (F : Fun K "is_fraction" "is_fraction" s_is_fraction f fd) (T : Txt K mg) (D_is_integer : Def P w K mg base k "is_integer" ["value"] false mf_is_integer) : FnM P w K mg base (k + 1) f fd ["value"] false (fnM false 2 (m_is_fraction)) :=
  fnM_of F sc_is_fraction fun cdv A outer s H G =>
    (sss_cons (ss_if (SW.t (sw_or (st_not (st_val (se_isi T.n_isinstance (SE.toB (se_name 0)) T.n_tuple))) (sw_or (st_cmp (opd_ne G.u) (SE.toB (se_callB cd_len T.n_len (sab_cons (SE.toB (se_name 0)) sab_nil))) (SE.toB se_int)) (sw_or1 (st_not (st_val (se_callB (cd_all G.calm) T.n_all (sab_cons (SF.toB (sf_lc (w := false) (own := [("x", 1)]) G.calm G.nd (sj_seq (SE.toB (se_name 0))) (blk_c ["value", "x"] (defScope s_is_fraction) rfl (by decide +kernel) (by decide +kernel) (by decide +kernel) (by decide +kernel)) (fun _ _ _ _ _ => (sg_name (G.blk).nd)) (fun _ _ _ _ _ => sts_nil) (fun _ _ _ _ _ => (se_callD (G.blk) D_is_integer (sa_cons (se_name 1) sa_nil))))) sab_nil)))))))) (sss_one (ss_ret se_bl)) sss_nil)
    (sss_one (ss_ret (se_and (se_cmp opd_gt (SE.toB (se_ix (SE.toB (se_name 0)) (SE.toB se_int))) (SE.toB se_int)) (se_one (se_cmp (opd_eq G.u) (SE.toB (se_callG cd_gcd T.i_gcd (sab_cons (SE.toB (se_ix (SE.toB (se_name 0)) (SE.toB se_int))) (sab_cons (SE.toB (se_ix (SE.toB (se_name 0)) (SE.toB se_int))) sab_nil)))) (SE.toB se_int)))))))
def m_fraction_of : Ev → M Fl :=
  mSeq (mSet 2 (mIfE (mAsB (mOp gtD (mName 1) (mC (.int 0)))) (mCl gcdD (mCons (mName 0) (mCons (mName 1) (mNil)))) (mUn negD (mCl gcdD (mCons (mName 0) (mCons (mName 1) (mNil))))))) (mRet (mTup (mCons (mOp fdivD (mName 0) (mName 2)) (mCons (mOp fdivD (mName 1) (mName 2)) (mNil)))))
def mf_fraction_of : List PyData → M PyData := fnM false 3 m_fraction_of
theorem sc_fraction_of : FnScope ["p", "q", "by"] ["p", "q"] (defScope s_fraction_of) := ⟨rfl, rfl, rfl, by decide +kernel, rfl, by decide +kernel, by decide +kernel⟩
theorem w_fraction_of {P : Program} {w : World} {K : PySem.W.Frag} {mg : Str → Option Value} {base : Heap} {k : Nat} {f : Addr} {fd : FuncData} (F : Fun K "fraction_of" "fraction_of" s_fraction_of f fd) (T : Txt K mg) : FnM P w K mg base (k + 1) f fd ["p", "q"] false (fnM false 3 (m_fraction_of)) :=
  fnM_of F sc_fraction_of fun cdv A outer s H G =>
    (sss_cons (ss_set G.nd (se_if (st_cmp opd_gt (SE.toB (se_name 1)) (SE.toB se_int)) (se_callG cd_gcd T.i_gcd (sab_cons (SE.toB (se_name 0)) (sab_cons (SE.toB (se_name 1)) sab_nil))) (se_neg (SE.toB (se_callG cd_gcd T.i_gcd (sab_cons (SE.toB (se_name 0)) (sab_cons (SE.toB (se_name 1)) sab_nil)))))))
    (sss_one (ss_ret (se_tup (sa_cons (se_op opd_fdiv (SE.toB (se_name 0)) (SE.toB (se_name 2))) (sa_cons (se_op opd_fdiv (SE.toB (se_name 1)) (SE.toB (se_name 2))) sa_nil))))))
def m_fraction_sum : Ev → M Fl :=
  mRet (mCall 2 mf_fraction_of (mCons (mOp addD (mOp mulD (mOp ixD (mName 0) (mC (.int 0))) (mOp ixD (mName 1) (mC (.int 1)))) (mOp mulD (mOp ixD (mName 1) (mC (.int 0))) (mOp ixD (mName 0) (mC (.int 1))))) (mCons (mOp mulD (mOp ixD (mName 0) (mC (.int 1))) (mOp ixD (mName 1) (mC (.int 1)))) (mNil))))
def mf_fraction_sum : List PyData → M PyData := fnM false 2 m_fraction_sum
theorem sc_fraction_sum : FnScope ["a", "b"] ["a", "b"] (defScope s_fraction_sum) := ⟨rfl, rfl, rfl, by decide +kernel, rfl, by decide +kernel, by decide +kernel⟩
theorem w_fraction_sum {P : Program} {w : World} {K : PySem.W.Frag} {mg : Str → Option Value} {base : Heap} {k : Nat} {f : Addr} {fd : FuncData} (F : Fun K "fraction_sum" "fraction_sum" s_fraction_sum f fd) (T : Txt K mg) (D_fraction_of : Def P w K mg base k "fraction_of" ["p", "q"] false mf_fraction_of) : FnM P w K mg base (k + 1) f fd ["a", "b"] false (fnM false 2 (m_fraction_sum)) :=
  fnM_of F sc_fraction_sum fun cdv A outer s H G =>
    (sss_one (ss_ret (se_callD G D_fraction_of (sa_cons (se_op opd_add (SE.toB (se_op opd_mul (SE.toB (se_ix (SE.toB (se_name 0)) (SE.toB se_int))) (SE.toB (se_ix (SE.toB (se_name 1)) (SE.toB se_int))))) (SE.toB (se_op opd_mul (SE.toB (se_ix (SE.toB (se_name 1)) (SE.toB se_int))) (SE.toB (se_ix (SE.toB (se_name 0)) (SE.toB se_int)))))) (sa_cons (se_op opd_mul (SE.toB (se_ix (SE.toB (se_name 0)) (SE.toB se_int))) (SE.toB (se_ix (SE.toB (se_name 1)) (SE.toB se_int)))) sa_nil)))))
def m_fraction_times : Ev → M Fl :=
  mRet (mCall 2 mf_fraction_of (mCons (mOp mulD (mOp ixD (mName 0) (mC (.int 0))) (mOp ixD (mName 1) (mC (.int 0)))) (mCons (mOp mulD (mOp ixD (mName 0) (mC (.int 1))) (mOp ixD (mName 1) (mC (.int 1)))) (mNil))))
def mf_fraction_times : List PyData → M PyData := fnM false 2 m_fraction_times
theorem sc_fraction_times : FnScope ["a", "b"] ["a", "b"] (defScope s_fraction_times) := ⟨rfl, rfl, rfl, by decide +kernel, rfl, by decide +kernel, by decide +kernel⟩
theorem w_fraction_times {P : Program} {w : World} {K : PySem.W.Frag} {mg : Str → Option Value} {base : Heap} {k : Nat} {f : Addr} {fd : FuncData} (F : Fun K "fraction_times" "fraction_times" s_fraction_times f fd) (T : Txt K mg) (D_fraction_of : Def P w K mg base k "fraction_of" ["p", "q"] false mf_fraction_of) : FnM P w K mg base (k + 1) f fd ["a", "b"] false (fnM false 2 (m_fraction_times)) :=
  fnM_of F sc_fraction_times fun cdv A outer s H G =>
    (sss_one (ss_ret (se_callD G D_fraction_of (sa_cons (se_op opd_mul (SE.toB (se_ix (SE.toB (se_name 0)) (SE.toB se_int))) (SE.toB (se_ix (SE.toB (se_name 1)) (SE.toB se_int)))) (sa_cons (se_op opd_mul (SE.toB (se_ix (SE.toB (se_name 0)) (SE.toB se_int))) (SE.toB (se_ix (SE.toB (se_name 1)) (SE.toB se_int)))) sa_nil)))))
def m_is_poly : Ev → M Fl :=
  mSeq (mIfS (mOrT (mNotT (mAsB (mIsi "tuple" (mName 0)))) (mNotT (mAsB (mCl allD (mCons (mFrz (mLc (mSeqI (mName 0)) (gSet 1) (mYes) (mAndV (mIsi "tuple" (mName 1)) (mOp eqD (mCl lenD (mCons (mName 1) (mNil))) (mC (.int 2)))) [1])) (mNil)))))) (mRet (mC (.bool false))) (mPass)) (mSeq (mIfS (mNotT (mAsB (mCl allD (mCons (mFrz (mLc (mSeqI (mName 0)) (gTupD 2 (gsCons (gSet 2) (gsCons (gSet 3) (gsNil)))) (mYes) (mAndV (mCall 1 mf_is_integer (mCons (mName 2) (mNil))) (mAndV (mCall 1 mf_is_fraction (mCons (mName 3) (mNil))) (mOp neD (mName 3) (mC c_ZERO)))) [2, 3])) (mNil))))) (mRet (mC (.bool false))) (mPass)) (mRet (mCl allD (mCons (mFrz (mLc (mCl zipD (mCons (mName 0) (mCons (mCut cutD (mName 0) (mP (mC (.int 1))) (mNoP)) (mNil)))) (gTupD 2 (gsCons (gSet 4) (gsCons (gSet 5) (gsNil)))) (mYes) (mOp ltD (mOp ixD (mName 4) (mC (.int 0))) (mOp ixD (mName 5) (mC (.int 0)))) [4, 5])) (mNil)))))
def mf_is_poly : List PyData → M PyData := fnM false 6 m_is_poly
theorem sc_is_poly : FnScope ["value", "pair", "i", "c", "one", "late"] ["value"] (defScope s_is_poly) := ⟨rfl, rfl, rfl, by decide +kernel, rfl, by decide +kernel, by decide +kernel⟩
theorem w_is_poly {P : Program} {w : World} {K : PySem.W.Frag} {mg : Str → Option Value} {base : Heap} {k : Nat} {f : Addr} {fd : FuncData} (F : Fun K "is_poly" "is_poly" s_is_poly f fd) (T : Txt K mg) (D_is_fraction : Def P w K mg base k "is_fraction" ["value"] false mf_is_fraction) (D_is_integer : Def P w K mg base k "is_integer" ["value"] false mf_is_integer) : FnM P w K mg base (k + 1) f fd ["value"] false (fnM false 6 (m_is_poly)) :=
  fnM_of F sc_is_poly fun cdv A outer s H G =>
    (sss_cons (ss_if (SW.t (sw_or (st_not (st_val (se_isi T.n_isinstance (SE.toB (se_name 0)) T.n_tuple))) (sw_or1 (st_not (st_val (se_callB (cd_all G.calm) T.n_all (sab_cons (SF.toB (sf_lc (w := false) (own := [("pair", 1)]) G.calm G.nd (sj_seq (SE.toB (se_name 0))) (blk_c ["value", "pair", "i", "c", "one", "late"] (defScope s_is_poly) rfl (by decide +kernel) (by decide +kernel) (by decide +kernel) (by decide +kernel)) (fun _ _ _ _ _ => (sg_name (G.blk).nd)) (fun _ _ _ _ _ => sts_nil) (fun _ _ _ _ _ => (se_and (se_isi T.n_isinstance (SE.toB (se_name 1)) T.n_tuple) (se_one (se_cmp (opd_eq (G.blk).u) (SE.toB (se_callB cd_len T.n_len (sab_cons (SE.toB (se_name 1)) sab_nil))) (SE.toB se_int))))))) sab_nil))))))) (sss_one (ss_ret se_bl)) sss_nil)
    (sss_cons (ss_if (st_not (st_val (se_callB (cd_all G.calm) T.n_all (sab_cons (SF.toB (sf_lc (w := false) (own := [("i", 2), ("c", 3)]) G.calm G.nd (sj_seq (SE.toB (se_name 0))) (blk_c ["value", "pair", "i", "c", "one", "late"] (defScope s_is_poly) rfl (by decide +kernel) (by decide +kernel) (by decide +kernel) (by decide +kernel)) (fun _ _ _ _ _ => (sg_tup (G.blk).calm (sgs_cons (sg_name (G.blk).nd) (sgs_cons (sg_name (G.blk).nd) sgs_nil)))) (fun _ _ _ _ _ => sts_nil) (fun _ _ _ _ _ => (se_and (se_callD (G.blk) D_is_integer (sa_cons (se_name 2) sa_nil)) (se_and (se_callD (G.blk) D_is_fraction (sa_cons (se_name 3) sa_nil)) (se_one (se_cmp (opd_ne (G.blk).u) (SE.toB (se_name 3)) (SE.toB (let ⟨_, h1, h2⟩ := T.w_ZERO; se_globD h1 h2))))))))) sab_nil)))) (sss_one (ss_ret se_bl)) sss_nil)
    (sss_one (ss_ret (se_callB (cd_all G.calm) T.n_all (sab_cons (SF.toB (sf_lc (w := true) (own := [("one", 4), ("late", 5)]) G.calm G.nd (SI.toJ (si_zip T.n_zip (sa_cons (se_name 0) (sa_cons (se_cut (SE.toB (se_name 0)) (sp_some se_int) sp_none) sa_nil)))) (blk_c ["value", "pair", "i", "c", "one", "late"] (defScope s_is_poly) rfl (by decide +kernel) (by decide +kernel) (by decide +kernel) (by decide +kernel)) (fun _ _ _ _ _ => (sg_tup (G.blk).calm (sgs_cons (sg_name (G.blk).nd) (sgs_cons (sg_name (G.blk).nd) sgs_nil)))) (fun _ _ _ _ _ => sts_nil) (fun _ _ _ _ _ => (se_cmp opd_lt (SE.toB (se_ix (SE.toB (se_name 4)) (SE.toB se_int))) (SE.toB (se_ix (SE.toB (se_name 5)) (SE.toB se_int))))))) sab_nil))))))
def m_poly_of : Ev → M Fl :=
  mSeq (mSetD 1 (mDNil)) (mSeq (mFor (mSeqI (mName 0)) (gTupD 2 (gsCons (gSet 2) (gsCons (gSet 3) (gsNil)))) (mDPut 1 (mName 2) (mCall 2 mf_fraction_sum (mCons (mOp3 dget2D (mOwn 1) (mName 2) (mC c_ZERO)) (mCons (mName 3) (mNil)))))) (mRet (mCl tupleD (mCons (mFrz (mLc (mSeqI (mFrz (mCl sortedDL (mCons (mOwn 1) (mNil))))) (gSet 2) (mAsB (mOp neD (mOp dgetD (mOwn 1) (mName 2)) (mC c_ZERO))) (mTup (mCons (mName 2) (mCons (mOp dgetD (mOwn 1) (mName 2)) (mNil)))) [2])) (mNil)))))
def mf_poly_of : List PyData → M PyData := fnM false 4 m_poly_of
theorem sc_poly_of : FnScope ["pairs", "found", "i", "c"] ["pairs"] (defScope s_poly_of) := ⟨rfl, rfl, rfl, by decide +kernel, rfl, by decide +kernel, by decide +kernel⟩
theorem w_poly_of {P : Program} {w : World} {K : PySem.W.Frag} {mg : Str → Option Value} {base : Heap} {k : Nat} {f : Addr} {fd : FuncData} (F : Fun K "poly_of" "poly_of" s_poly_of f fd) (T : Txt K mg) (D_fraction_sum : Def P w K mg base k "fraction_sum" ["a", "b"] false mf_fraction_sum) : FnM P w K mg base (k + 1) f fd ["pairs"] false (fnM false 4 (m_poly_of)) :=
  fnM_of F sc_poly_of fun cdv A outer s H G =>
    (sss_cons (ss_setD G.nd sd_nil)
    (sss_cons (ss_for (w := false) (ws := [2, 3]) PassesOwn.never G.calm (si_seq (se_name 0)) (sg_tup G.calm (sgs_cons (sg_name G.nd) (sgs_cons (sg_name G.nd) sgs_nil))) (sss_one (ss_dput G.u1 (pv 1) (SE.toB (se_name 2)) (se_callD G D_fraction_sum (sa_cons (se_dget2 G.u1 (sb_name 1) (SE.toB (se_name 2)) (let ⟨_, h1, h2⟩ := T.w_ZERO; se_globD h1 h2)) (sa_cons (se_name 3) sa_nil))))))
    (sss_one (ss_ret (se_callT cd_tuple T.n_tuple (sab_cons (SF.toB (sf_lc (w := false) (own := [("i", 2)]) G.calm G.nd (sj_seq (SF.toB (sf_callB (cf_sortedD G.calm) T.n_sorted (sab_cons (sb_name 1) sab_nil)))) (blk_c ["pairs", "found", "i", "c"] (defScope s_poly_of) rfl (by decide +kernel) (by decide +kernel) (by decide +kernel) (by decide +kernel)) (fun _ _ _ _ _ => (sg_name (G.blk).nd)) (fun _ _ _ _ _ => (sts_one (st_cmp (opd_ne (G.blk).u) (SE.toB (se_dget (G.blk).u1 (sb_name 1) (SE.toB (se_name 2)))) (SE.toB (let ⟨_, h1, h2⟩ := T.w_ZERO; se_globD h1 h2))))) (fun _ _ _ _ _ => (se_tup (sa_cons (se_name 2) (sa_cons (se_dget (G.blk).u1 (sb_name 1) (SE.toB (se_name 2))) sa_nil)))))) sab_nil))))))
def m_poly_sum : Ev → M Fl :=
  mRet (mCall 1 mf_poly_of (mCons (mFrz (mLst (mStar (mName 0) (mStar (mName 1) (mNil))))) (mNil)))
def mf_poly_sum : List PyData → M PyData := fnM false 2 m_poly_sum
theorem sc_poly_sum : FnScope ["a", "b"] ["a", "b"] (defScope s_poly_sum) := ⟨rfl, rfl, rfl, by decide +kernel, rfl, by decide +kernel, by decide +kernel⟩
theorem w_poly_sum {P : Program} {w : World} {K : PySem.W.Frag} {mg : Str → Option Value} {base : Heap} {k : Nat} {f : Addr} {fd : FuncData} (F : Fun K "poly_sum" "poly_sum" s_poly_sum f fd) (T : Txt K mg) (D_poly_of : Def P w K mg base k "poly_of" ["pairs"] false mf_poly_of) : FnM P w K mg base (k + 1) f fd ["a", "b"] false (fnM false 2 (m_poly_sum)) :=
  fnM_of F sc_poly_sum fun cdv A outer s H G =>
    (sss_one (ss_ret (se_callD G D_poly_of (sa_cons (SF.toE (sf_lst (sa_star (SE.toB (se_name 0)) (sa_star (SE.toB (se_name 1)) sa_nil)))) sa_nil))))
def m_poly_scaled : Ev → M Fl :=
  mRet (mCall 1 mf_poly_of (mCons (mFrz (mLc (mSeqI (mName 1)) (gTupD 2 (gsCons (gSet 2) (gsCons (gSet 3) (gsNil)))) (mYes) (mTup (mCons (mName 2) (mCons (mCall 2 mf_fraction_times (mCons (mName 0) (mCons (mName 3) (mNil)))) (mNil)))) [2, 3])) (mNil)))
def mf_poly_scaled : List PyData → M PyData := fnM false 4 m_poly_scaled
theorem sc_poly_scaled : FnScope ["c", "a", "i", "x"] ["c", "a"] (defScope s_poly_scaled) := ⟨rfl, rfl, rfl, by decide +kernel, rfl, by decide +kernel, by decide +kernel⟩
theorem w_poly_scaled {P : Program} {w : World} {K : PySem.W.Frag} {mg : Str → Option Value} {base : Heap} {k : Nat} {f : Addr} {fd : FuncData} (F : Fun K "poly_scaled" "poly_scaled" s_poly_scaled f fd) (T : Txt K mg) (D_poly_of : Def P w K mg base k "poly_of" ["pairs"] false mf_poly_of) (D_fraction_times : Def P w K mg base k "fraction_times" ["a", "b"] false mf_fraction_times) : FnM P w K mg base (k + 1) f fd ["c", "a"] false (fnM false 4 (m_poly_scaled)) :=
  fnM_of F sc_poly_scaled fun cdv A outer s H G =>
    (sss_one (ss_ret (se_callD G D_poly_of (sa_cons (SF.toE (sf_lc (w := false) (own := [("i", 2), ("x", 3)]) G.calm G.nd (sj_seq (SE.toB (se_name 1))) (blk_c ["c", "a", "i", "x"] (defScope s_poly_scaled) rfl (by decide +kernel) (by decide +kernel) (by decide +kernel) (by decide +kernel)) (fun _ _ _ _ _ => (sg_tup (G.blk).calm (sgs_cons (sg_name (G.blk).nd) (sgs_cons (sg_name (G.blk).nd) sgs_nil)))) (fun _ _ _ _ _ => sts_nil) (fun _ _ _ _ _ => (se_tup (sa_cons (se_name 2) (sa_cons (se_callD (G.blk) D_fraction_times (sa_cons (se_name 0) (sa_cons (se_name 3) sa_nil))) sa_nil)))))) sa_nil))))
def m_poly_less : Ev → M Fl :=
  mRet (mCall 2 mf_poly_sum (mCons (mName 0) (mCons (mCall 2 mf_poly_scaled (mCons (mTup (mCons (mUn negD (mC (.int 1))) (mCons (mC (.int 1)) (mNil)))) (mCons (mName 1) (mNil)))) (mNil))))
def mf_poly_less : List PyData → M PyData := fnM false 2 m_poly_less
theorem sc_poly_less : FnScope ["a", "b"] ["a", "b"] (defScope s_poly_less) := ⟨rfl, rfl, rfl, by decide +kernel, rfl, by decide +kernel, by decide +kernel⟩
theorem w_poly_less {P : Program} {w : World} {K : PySem.W.Frag} {mg : Str → Option Value} {base : Heap} {k : Nat} {f : Addr} {fd : FuncData} (F : Fun K "poly_less" "poly_less" s_poly_less f fd) (T : Txt K mg) (D_poly_sum : Def P w K mg base k "poly_sum" ["a", "b"] false mf_poly_sum) (D_poly_scaled : Def P w K mg base k "poly_scaled" ["c", "a"] false mf_poly_scaled) : FnM P w K mg base (k + 1) f fd ["a", "b"] false (fnM false 2 (m_poly_less)) :=
  fnM_of F sc_poly_less fun cdv A outer s H G =>
    (sss_one (ss_ret (se_callD G D_poly_sum (sa_cons (se_name 0) (sa_cons (se_callD G D_poly_scaled (sa_cons (se_tup (sa_cons (se_neg (SE.toB se_int)) (sa_cons se_int sa_nil))) (sa_cons (se_name 1) sa_nil))) sa_nil)))))
def m_poly_times : Ev → M Fl :=
  mSeq (mSetF 2 (mLst (mNil))) (mSeq (mFor (mSeqI (mName 0)) (gTupD 2 (gsCons (gSet 3) (gsCons (gSet 4) (gsNil)))) (mExtend 2 (mFrz (mLc (mSeqI (mName 1)) (gTupD 2 (gsCons (gSet 5) (gsCons (gSet 6) (gsNil)))) (mYes) (mTup (mCons (mOp addD (mName 3) (mName 5)) (mCons (mCall 2 mf_fraction_times (mCons (mName 4) (mCons (mName 6) (mNil)))) (mNil)))) [5, 6])))) (mFz 2 (mRet (mCall 1 mf_poly_of (mCons (mName 2) (mNil))))))
def mf_poly_times : List PyData → M PyData := fnM false 7 m_poly_times
theorem sc_poly_times : FnScope ["a", "b", "pairs", "i", "x", "k", "y"] ["a", "b"] (defScope s_poly_times) := ⟨rfl, rfl, rfl, by decide +kernel, rfl, by decide +kernel, by decide +kernel⟩
theorem w_poly_times {P : Program} {w : World} {K : PySem.W.Frag} {mg : Str → Option Value} {base : Heap} {k : Nat} {f : Addr} {fd : FuncData} (F : Fun K "poly_times" "poly_times" s_poly_times f fd) (T : Txt K mg) (D_fraction_times : Def P w K mg base k "fraction_times" ["a", "b"] false mf_fraction_times) (D_poly_of : Def P w K mg base k "poly_of" ["pairs"] false mf_poly_of) : FnM P w K mg base (k + 1) f fd ["a", "b"] false (fnM false 7 (m_poly_times)) :=
  fnM_of F sc_poly_times fun cdv A outer s H G =>
    (sss_cons (ss_setF G.nd (sf_lst sa_nil))
    (sss_cons (ss_for (w := false) (ws := [3, 4]) PassesOwn.never G.calm (si_seq (se_name 0)) (sg_tup G.calm (sgs_cons (sg_name G.nd) (sgs_cons (sg_name G.nd) sgs_nil))) (sss_one (ss_extend (SF.toB (sf_lc (w := false) (own := [("k", 5), ("y", 6)]) G.calm G.nd (sj_seq (SE.toB (se_name 1))) (blk_c ["a", "b", "pairs", "i", "x", "k", "y"] (defScope s_poly_times) rfl (by decide +kernel) (by decide +kernel) (by decide +kernel) (by decide +kernel)) (fun _ _ _ _ _ => (sg_tup (G.blk).calm (sgs_cons (sg_name (G.blk).nd) (sgs_cons (sg_name (G.blk).nd) sgs_nil)))) (fun _ _ _ _ _ => sts_nil) (fun _ _ _ _ _ => (se_tup (sa_cons (se_op opd_add (SE.toB (se_name 3)) (SE.toB (se_name 5))) (sa_cons (se_callD (G.blk) D_fraction_times (sa_cons (se_name 4) (sa_cons (se_name 6) sa_nil))) sa_nil)))))) (pv 2))))
    (sss_one (ss_fz 2 (ss_ret (se_callD G D_poly_of (sa_cons (se_name 2) sa_nil)))))))
def m_whole_power : Ev → M Fl :=
  mSeq (mSet 2 (mC (.int 1))) (mSeq (mFor (mRng rng1D (mCons (mName 1) (mNil))) (gSet 3) (mSet 2 (mOp mulD (mName 2) (mName 0)))) (mRet (mName 2)))
def mf_whole_power : List PyData → M PyData := fnM false 4 m_whole_power
theorem sc_whole_power : FnScope ["s", "n", "found", "turn"] ["s", "n"] (defScope s_whole_power) := ⟨rfl, rfl, rfl, by decide +kernel, rfl, by decide +kernel, by decide +kernel⟩
theorem w_whole_power {P : Program} {w : World} {K : PySem.W.Frag} {mg : Str → Option Value} {base : Heap} {k : Nat} {f : Addr} {fd : FuncData} (F : Fun K "whole_power" "whole_power" s_whole_power f fd) (T : Txt K mg) : FnM P w K mg base (k + 1) f fd ["s", "n"] false (fnM false 4 (m_whole_power)) :=
  fnM_of F sc_whole_power fun cdv A outer s H G =>
    (sss_cons (ss_set G.nd se_int)
    (sss_cons (ss_for (w := false) (ws := [3]) PassesOwn.never G.calm (si_range1 T.n_range (sa_cons (se_name 1) sa_nil)) (sg_name G.nd) (sss_one (ss_set G.nd (se_op opd_mul (SE.toB (se_name 2)) (SE.toB (se_name 0))))))
    (sss_one (ss_ret (se_name 2)))))
def m_poly_at : Ev → M Fl :=
  mSeq (mSet 2 (mC c_ZERO)) (mSeq (mFor (mSeqI (mName 0)) (gTupD 2 (gsCons (gSet 3) (gsCons (gSet 4) (gsNil)))) (mSeq (mSet 5 (mIfE (mAsB (mOp geD (mName 3) (mC (.int 0)))) (mTup (mCons (mCall 2 mf_whole_power (mCons (mName 1) (mCons (mName 3) (mNil)))) (mCons (mC (.int 1)) (mNil)))) (mTup (mCons (mC (.int 1)) (mCons (mCall 2 mf_whole_power (mCons (mName 1) (mCons (mUn negD (mName 3)) (mNil)))) (mNil)))))) (mSet 2 (mCall 2 mf_fraction_sum (mCons (mName 2) (mCons (mCall 2 mf_fraction_times (mCons (mName 4) (mCons (mName 5) (mNil)))) (mNil))))))) (mRet (mName 2)))
def mf_poly_at : List PyData → M PyData := fnM false 6 m_poly_at
theorem sc_poly_at : FnScope ["poly", "s", "found", "i", "c", "power"] ["poly", "s"] (defScope s_poly_at) := ⟨rfl, rfl, rfl, by decide +kernel, rfl, by decide +kernel, by decide +kernel⟩
theorem w_poly_at {P : Program} {w : World} {K : PySem.W.Frag} {mg : Str → Option Value} {base : Heap} {k : Nat} {f : Addr} {fd : FuncData} (F : Fun K "poly_at" "poly_at" s_poly_at f fd) (T : Txt K mg) (D_whole_power : Def P w K mg base k "whole_power" ["s", "n"] false mf_whole_power) (D_fraction_sum : Def P w K mg base k "fraction_sum" ["a", "b"] false mf_fraction_sum) (D_fraction_times : Def P w K mg base k "fraction_times" ["a", "b"] false mf_fraction_times) : FnM P w K mg base (k + 1) f fd ["poly", "s"] false (fnM false 6 (m_poly_at)) :=
  fnM_of F sc_poly_at fun cdv A outer s H G =>
    (sss_cons (ss_set G.nd (let ⟨_, h1, h2⟩ := T.w_ZERO; se_globD h1 h2))
    (sss_cons (ss_for (w := false) (ws := [3, 4]) PassesOwn.never G.calm (si_seq (se_name 0)) (sg_tup G.calm (sgs_cons (sg_name G.nd) (sgs_cons (sg_name G.nd) sgs_nil))) (sss_cons (ss_set G.nd (se_if (st_cmp opd_ge (SE.toB (se_name 3)) (SE.toB se_int)) (se_tup (sa_cons (se_callD G D_whole_power (sa_cons (se_name 1) (sa_cons (se_name 3) sa_nil))) (sa_cons se_int sa_nil))) (se_tup (sa_cons se_int (sa_cons (se_callD G D_whole_power (sa_cons (se_name 1) (sa_cons (se_neg (SE.toB (se_name 3))) sa_nil))) sa_nil)))))
    (sss_one (ss_set G.nd (se_callD G D_fraction_sum (sa_cons (se_name 2) (sa_cons (se_callD G D_fraction_times (sa_cons (se_name 4) (sa_cons (se_name 5) sa_nil))) sa_nil)))))))
    (sss_one (ss_ret (se_name 2)))))
def m_choose : Ev → M Fl :=
  mSeq (mSet 2 (mC (.int 1))) (mSeq (mFor (mRng rng1D (mCons (mName 1) (mNil))) (gSet 3) (mSet 2 (mOp fdivD (mOp mulD (mName 2) (mOp subD (mName 0) (mName 3))) (mOp addD (mName 3) (mC (.int 1)))))) (mRet (mName 2)))
def mf_choose : List PyData → M PyData := fnM false 4 m_choose
theorem sc_choose : FnScope ["n", "k", "found", "i"] ["n", "k"] (defScope s_choose) := ⟨rfl, rfl, rfl, by decide +kernel, rfl, by decide +kernel, by decide +kernel⟩
theorem w_choose {P : Program} {w : World} {K : PySem.W.Frag} {mg : Str → Option Value} {base : Heap} {k : Nat} {f : Addr} {fd : FuncData} (F : Fun K "choose" "choose" s_choose f fd) (T : Txt K mg) : FnM P w K mg base (k + 1) f fd ["n", "k"] false (fnM false 4 (m_choose)) :=
  fnM_of F sc_choose fun cdv A outer s H G =>
    (sss_cons (ss_set G.nd se_int)
    (sss_cons (ss_for (w := false) (ws := [3]) PassesOwn.never G.calm (si_range1 T.n_range (sa_cons (se_name 1) sa_nil)) (sg_name G.nd) (sss_one (ss_set G.nd (se_op opd_fdiv (SE.toB (se_op opd_mul (SE.toB (se_name 2)) (SE.toB (se_op opd_sub (SE.toB (se_name 0)) (SE.toB (se_name 3)))))) (SE.toB (se_op opd_add (SE.toB (se_name 3)) (SE.toB se_int)))))))
    (sss_one (ss_ret (se_name 2)))))
def m_sum_below : Ev → M Fl :=
  mSeq (mSetF 1 (mLst (mNil))) (mSeq (mFor (mRng rng1D (mCons (mOp addD (mName 0) (mC (.int 1))) (mNil))) (gSet 2) (mSeq (mSet 3 (mTup (mCons (mTup (mCons (mOp addD (mName 2) (mC (.int 1))) (mCons (mC c_ONE) (mNil)))) (mNil)))) (mSeq (mForJ (mEnum (mOwn 1)) (gTupD 2 (gsCons (gSet 4) (gsCons (gSet 5) (gsNil)))) (mSet 3 (mCall 2 mf_poly_less (mCons (mName 3) (mCons (mCall 2 mf_poly_scaled (mCons (mTup (mCons (mCall 2 mf_choose (mCons (mOp addD (mName 2) (mC (.int 1))) (mCons (mName 4) (mNil)))) (mCons (mC (.int 1)) (mNil)))) (mCons (mName 5) (mNil)))) (mNil)))))) (mAppend 1 (mCall 2 mf_poly_scaled (mCons (mCall 2 mf_fraction_of (mCons (mC (.int 1)) (mCons (mOp addD (mName 2) (mC (.int 1))) (mNil)))) (mCons (mName 3) (mNil)))))))) (mRet (mIfE (mAsB (mOp gtD (mName 0) (mC (.int 0)))) (mOp ixD (mOwn 1) (mName 0)) (mCall 2 mf_poly_less (mCons (mOp ixD (mOwn 1) (mC (.int 0))) (mCons (mTup (mCons (mTup (mCons (mC (.int 0)) (mCons (mC c_ONE) (mNil)))) (mNil))) (mNil)))))))
def mf_sum_below : List PyData → M PyData := fnM false 6 m_sum_below
theorem sc_sum_below : FnScope ["e", "sums", "n", "found", "k", "late"] ["e"] (defScope s_sum_below) := ⟨rfl, rfl, rfl, by decide +kernel, rfl, by decide +kernel, by decide +kernel⟩
theorem w_sum_below {P : Program} {w : World} {K : PySem.W.Frag} {mg : Str → Option Value} {base : Heap} {k : Nat} {f : Addr} {fd : FuncData} (F : Fun K "sum_below" "sum_below" s_sum_below f fd) (T : Txt K mg) (D_poly_less : Def P w K mg base k "poly_less" ["a", "b"] false mf_poly_less) (D_poly_scaled : Def P w K mg base k "poly_scaled" ["c", "a"] false mf_poly_scaled) (D_choose : Def P w K mg base k "choose" ["n", "k"] false mf_choose) (D_fraction_of : Def P w K mg base k "fraction_of" ["p", "q"] false mf_fraction_of) : FnM P w K mg base (k + 1) f fd ["e"] false (fnM false 6 (m_sum_below)) :=
  fnM_of F sc_sum_below fun cdv A outer s H G =>
    (sss_cons (ss_setF G.nd (sf_lst sa_nil))
    (sss_cons (ss_for (w := false) (ws := [2]) PassesOwn.never G.calm (si_range1 T.n_range (sa_cons (se_op opd_add (SE.toB (se_name 0)) (SE.toB se_int)) sa_nil)) (sg_name G.nd) (sss_cons (ss_set G.nd (se_tup (sa_cons (se_tup (sa_cons (se_op opd_add (SE.toB (se_name 2)) (SE.toB se_int)) (sa_cons (let ⟨_, h1, h2⟩ := T.w_ONE; se_globD h1 h2) sa_nil))) sa_nil)))
    (sss_cons (ss_forJ (w := true) (ws := [4, 5]) PassesOwn.never G.calm (sj_enum T.n_enumerate (sb_name 1)) (sg_tup G.calm (sgs_cons (sg_name G.nd) (sgs_cons (sg_name G.nd) sgs_nil))) (ssp_one (sp_set G.nd (se_callD G D_poly_less (sa_cons (se_name 3) (sa_cons (se_callD G D_poly_scaled (sa_cons (se_tup (sa_cons (se_callD G D_choose (sa_cons (se_op opd_add (SE.toB (se_name 2)) (SE.toB se_int)) (sa_cons (se_name 4) sa_nil))) (sa_cons se_int sa_nil))) (sa_cons (se_name 5) sa_nil))) sa_nil))))))
    (sss_one (ss_append (se_callD G D_poly_scaled (sa_cons (se_callD G D_fraction_of (sa_cons se_int (sa_cons (se_op opd_add (SE.toB (se_name 2)) (SE.toB se_int)) sa_nil))) (sa_cons (se_name 3) sa_nil))) (pv 1))))))
    (sss_one (ss_ret (se_if (st_cmp opd_gt (SE.toB (se_name 0)) (SE.toB se_int)) (se_ix (sb_name 1) (SE.toB (se_name 0))) (se_callD G D_poly_less (sa_cons (se_ix (sb_name 1) (SE.toB se_int)) (sa_cons (se_tup (sa_cons (se_tup (sa_cons se_int (sa_cons (let ⟨_, h1, h2⟩ := T.w_ONE; se_globD h1 h2) sa_nil))) sa_nil)) sa_nil))))))))
def m_summed_below : Ev → M Fl :=
  mSeq (mSet 1 (mTup (mNil))) (mSeq (mFor (mSeqI (mName 0)) (gTupD 2 (gsCons (gSet 2) (gsCons (gSet 3) (gsNil)))) (mSet 1 (mCall 2 mf_poly_sum (mCons (mName 1) (mCons (mCall 2 mf_poly_scaled (mCons (mName 3) (mCons (mCall 1 mf_sum_below (mCons (mName 2) (mNil))) (mNil)))) (mNil)))))) (mRet (mName 1)))
def mf_summed_below : List PyData → M PyData := fnM false 4 m_summed_below
theorem sc_summed_below : FnScope ["poly", "found", "e", "c"] ["poly"] (defScope s_summed_below) := ⟨rfl, rfl, rfl, by decide +kernel, rfl, by decide +kernel, by decide +kernel⟩
theorem w_summed_below {P : Program} {w : World} {K : PySem.W.Frag} {mg : Str → Option Value} {base : Heap} {k : Nat} {f : Addr} {fd : FuncData} (F : Fun K "summed_below" "summed_below" s_summed_below f fd) (T : Txt K mg) (D_poly_sum : Def P w K mg base k "poly_sum" ["a", "b"] false mf_poly_sum) (D_poly_scaled : Def P w K mg base k "poly_scaled" ["c", "a"] false mf_poly_scaled) (D_sum_below : Def P w K mg base k "sum_below" ["e"] false mf_sum_below) : FnM P w K mg base (k + 1) f fd ["poly"] false (fnM false 4 (m_summed_below)) :=
  fnM_of F sc_summed_below fun cdv A outer s H G =>
    (sss_cons (ss_set G.nd (se_tup sa_nil))
    (sss_cons (ss_for (w := false) (ws := [2, 3]) PassesOwn.never G.calm (si_seq (se_name 0)) (sg_tup G.calm (sgs_cons (sg_name G.nd) (sgs_cons (sg_name G.nd) sgs_nil))) (sss_one (ss_set G.nd (se_callD G D_poly_sum (sa_cons (se_name 1) (sa_cons (se_callD G D_poly_scaled (sa_cons (se_name 3) (sa_cons (se_callD G D_sum_below (sa_cons (se_name 2) sa_nil)) sa_nil))) sa_nil))))))
    (sss_one (ss_ret (se_name 1)))))
def m_power_sum : Ev → M Fl :=
  mSeq (mSet 1 (mTup (mCons (mTup (mCons (mC (.int 0)) (mCons (mC c_ONE) (mNil)))) (mNil)))) (mSeq (mFor (mEnumA (mName 0)) (gTupD 2 (gsCons (gSet 2) (gsCons (gSet 3) (gsNil)))) (mSeq (mSet 4 (mCall 2 mf_poly_times (mCons (mName 1) (mCons (mTup (mCons (mTup (mCons (mName 3) (mCons (mC c_ONE) (mNil)))) (mNil))) (mNil))))) (mSeq (mSet 1 (mCall 1 mf_summed_below (mCons (mName 4) (mNil)))) (mIfS (mAsB (mOp eqD (mName 2) (mOp subD (mCl lenD (mCons (mName 0) (mNil))) (mC (.int 1))))) (mSet 1 (mCall 2 mf_poly_sum (mCons (mName 1) (mCons (mName 4) (mNil))))) (mPass))))) (mRet (mName 1)))
def mf_power_sum : List PyData → M PyData := fnM false 5 m_power_sum
theorem sc_power_sum : FnScope ["exponents", "found", "place", "e", "here"] ["exponents"] (defScope s_power_sum) := ⟨rfl, rfl, rfl, by decide +kernel, rfl, by decide +kernel, by decide +kernel⟩
theorem w_power_sum {P : Program} {w : World} {K : PySem.W.Frag} {mg : Str → Option Value} {base : Heap} {k : Nat} {f : Addr} {fd : FuncData} (F : Fun K "power_sum" "power_sum" s_power_sum f fd) (T : Txt K mg) (D_poly_times : Def P w K mg base k "poly_times" ["a", "b"] false mf_poly_times) (D_summed_below : Def P w K mg base k "summed_below" ["poly"] false mf_summed_below) (D_poly_sum : Def P w K mg base k "poly_sum" ["a", "b"] false mf_poly_sum) : FnM P w K mg base (k + 1) f fd ["exponents"] false (fnM false 5 (m_power_sum)) :=
  fnM_of F sc_power_sum fun cdv A outer s H G =>
    (sss_cons (ss_set G.nd (se_tup (sa_cons (se_tup (sa_cons se_int (sa_cons (let ⟨_, h1, h2⟩ := T.w_ONE; se_globD h1 h2) sa_nil))) sa_nil)))
    (sss_cons (ss_for (w := true) (ws := [2, 3]) PassesOwn.never G.calm (si_enum T.n_enumerate (se_name 0)) (sg_tup G.calm (sgs_cons (sg_name G.nd) (sgs_cons (sg_name G.nd) sgs_nil))) (sss_cons (ss_set G.nd (se_callD G D_poly_times (sa_cons (se_name 1) (sa_cons (se_tup (sa_cons (se_tup (sa_cons (se_name 3) (sa_cons (let ⟨_, h1, h2⟩ := T.w_ONE; se_globD h1 h2) sa_nil))) sa_nil)) sa_nil))))
    (sss_cons (ss_set G.nd (se_callD G D_summed_below (sa_cons (se_name 4) sa_nil)))
    (sss_one (ss_if (st_cmp (opd_eq G.u) (SE.toB (se_name 2)) (SE.toB (se_op opd_sub (SE.toB (se_callB cd_len T.n_len (sab_cons (SE.toB (se_name 0)) sab_nil))) (SE.toB se_int)))) (sss_one (ss_set G.nd (se_callD G D_poly_sum (sa_cons (se_name 1) (sa_cons (se_name 4) sa_nil))))) sss_nil)))))
    (sss_one (ss_ret (se_name 1)))))
def m_law_pick : Ev → M Fl :=
  mSeq (mIfS (mAsB (mOp ltD (mName 1) (mC (.int 2)))) (mRet (mC (.int 0))) (mPass)) (mSeq (mSrcCells 0 2) (mSeq (whileM 66 (mAndT (mAsB (mOp ltD (mSrcGet 0 "left") (mC (.int 2)))) (mAsB (mOp gtD (mLenC 2) (mC (.int 0))))) (mSrcPut 0 "left" (mPopC 2))) (mSeq (mSet 3 (mSrcGet 0 "left")) (mSeq (mIfS (mAsB (mOp gtD (mName 3) (mC (.int 1)))) (mSeq (mSrcPut 0 "left" (mOp fdivD (mName 3) (mName 1))) (mRet (mOp modD (mCl intD (mCons (mName 3) (mNil))) (mName 1)))) (mPass)) (mSeq (mSrcPut 0 "turn" (mOp addD (mSrcGet 0 "turn") (mC (.int 1)))) (mSeq (mSet 4 (mSrcGet 0 "turn")) (mSeq (mSet 5 (mOp modD (mCl intD (mCons (mOp addD (mSrcGet 0 "mixed") (mOp mulD (mName 4) (mC (.int 104729)))) (mNil))) (mC (.int 998244353)))) (mSeq (mSet 5 (mOp modD (mCl intD (mCons (mOp addD (mOp mulD (mName 5) (mName 5)) (mOp mulD (mName 4) (mC (.int 17)))) (mNil))) (mC (.int 2147483647)))) (mRet (mOp modD (mCl intD (mCons (mOp fdivD (mName 5) (mC (.int 16))) (mNil))) (mName 1)))))))))))
def mf_law_pick : List PyData → M PyData := fnM true 6 m_law_pick
theorem sc_law_pick : FnScope ["source", "most", "cells", "others", "lap", "stirred"] ["source", "most"] (defScope s_law_pick) := ⟨rfl, rfl, rfl, by decide +kernel, rfl, by decide +kernel, by decide +kernel⟩
theorem w_law_pick {P : Program} {w : World} {K : PySem.W.Frag} {mg : Str → Option Value} {base : Heap} {k : Nat} {f : Addr} {fd : FuncData} (F : Fun K "_law_pick" "_law_pick" s_law_pick f fd) (T : Txt K mg) : FnM P w K mg base (k + 1) f fd ["source", "most"] true (fnM true 6 (m_law_pick)) :=
  fnM_of F sc_law_pick fun cdv A outer s H G =>
    (sss_cons (ss_if (st_cmp opd_lt (SE.toB (se_name 1)) (SE.toB se_int)) (sss_one (ss_ret se_int)) sss_nil)
    (sss_cons (ss_srcCells G.u1 G.nd (pv 0))
    (sss_cons (ss_while 66 PassesOwn.never (SW.t (sw_and (st_cmp opd_lt (SE.toB (se_srcGet G.u1 (pv 0))) (SE.toB se_int)) (sw_and1 (st_cmp opd_gt (SE.toB (se_lenC T.n_len (pv 2))) (SE.toB se_int))))) (sss_one (ss_srcPut G.u1 (pv 0) (se_popC (pv 2)))))
    (sss_cons (ss_set G.nd (se_srcGet G.u1 (pv 0)))
    (sss_cons (ss_if (st_cmp opd_gt (SE.toB (se_name 3)) (SE.toB se_int)) (sss_cons (ss_srcPut G.u1 (pv 0) (se_op opd_fdiv (SE.toB (se_name 3)) (SE.toB (se_name 1))))
    (sss_one (ss_ret (se_op opd_mod (SE.toB (se_callT cd_int T.n_int (sab_cons (SE.toB (se_name 3)) sab_nil))) (SE.toB (se_name 1)))))) sss_nil)
    (sss_cons (ss_srcPut G.u1 (pv 0) (se_op opd_add (SE.toB (se_srcGet G.u1 (pv 0))) (SE.toB se_int)))
    (sss_cons (ss_set G.nd (se_srcGet G.u1 (pv 0)))
    (sss_cons (ss_set G.nd (se_op opd_mod (SE.toB (se_callT cd_int T.n_int (sab_cons (SE.toB (se_op opd_add (SE.toB (se_srcGet G.u1 (pv 0))) (SE.toB (se_op opd_mul (SE.toB (se_name 4)) (SE.toB se_int))))) sab_nil))) (SE.toB se_int)))
    (sss_cons (ss_set G.nd (se_op opd_mod (SE.toB (se_callT cd_int T.n_int (sab_cons (SE.toB (se_op opd_add (SE.toB (se_op opd_mul (SE.toB (se_name 5)) (SE.toB (se_name 5)))) (SE.toB (se_op opd_mul (SE.toB (se_name 4)) (SE.toB se_int))))) sab_nil))) (SE.toB se_int)))
    (sss_one (ss_ret (se_op opd_mod (SE.toB (se_callT cd_int T.n_int (sab_cons (SE.toB (se_op opd_fdiv (SE.toB (se_name 5)) (SE.toB se_int))) sab_nil))) (SE.toB (se_name 1))))))))))))))
def m_law_of : Ev → M Fl :=
  mRet (mOp ixD (mName 1) (mCallS 1 0 mf_law_pick (mCons (mCl lenD (mCons (mName 1) (mNil))) (mNil))))
def mf_law_of : List PyData → M PyData := fnM true 2 m_law_of
theorem sc_law_of : FnScope ["source", "some"] ["source", "some"] (defScope s_law_of) := ⟨rfl, rfl, rfl, by decide +kernel, rfl, by decide +kernel, by decide +kernel⟩
theorem w_law_of {P : Program} {w : World} {K : PySem.W.Frag} {mg : Str → Option Value} {base : Heap} {k : Nat} {f : Addr} {fd : FuncData} (F : Fun K "_law_of" "_law_of" s_law_of f fd) (T : Txt K mg) (D_law_pick : Def P w K mg base k "_law_pick" ["source", "most"] true mf_law_pick) : FnM P w K mg base (k + 1) f fd ["source", "some"] true (fnM true 2 (m_law_of)) :=
  fnM_of F sc_law_of fun cdv A outer s H G =>
    (sss_one (ss_ret (se_ix (SE.toB (se_name 1)) (SE.toB (se_callDS G D_law_pick (pv 0) (sa_cons (se_callB cd_len T.n_len (sab_cons (SE.toB (se_name 1)) sab_nil)) sa_nil))))))
def m_law_fraction : Ev → M Fl :=
  mSeq (mPar [2, 3] (mCons (mCl absD (mCons (mName 0) (mNil))) (mCons (mCl absD (mCons (mName 1) (mNil))) (mNil)))) (mSeq (whileM 1000000000000000000000000000000000000000000000000000000000000000000000000000000000000000000000000000000000000000000000000000000000000000000000000000000000000000000000000000000000000000000000000000000000000000000000000000000000000000000000000000000000000000000000000000000000000000000000000000000000000 (mAsB (mOp gtD (mName 3) (mC (.int 0)))) (mPar [2, 3] (mCons (mName 3) (mCons (mOp modD (mCl intD (mCons (mName 2) (mNil))) (mName 3)) (mNil))))) (mSeq (mSet 2 (mIfE (mAsB (mOp gtD (mName 1) (mC (.int 0)))) (mName 2) (mOp subD (mC (.int 0)) (mName 2)))) (mRet (mTup (mCons (mOp fdivD (mName 0) (mName 2)) (mCons (mOp fdivD (mName 1) (mName 2)) (mNil)))))))
def mf_law_fraction : List PyData → M PyData := fnM false 4 m_law_fraction
theorem sc_law_fraction : FnScope ["p", "q", "a", "b"] ["p", "q"] (defScope s_law_fraction) := ⟨rfl, rfl, rfl, by decide +kernel, rfl, by decide +kernel, by decide +kernel⟩
theorem w_law_fraction {P : Program} {w : World} {K : PySem.W.Frag} {mg : Str → Option Value} {base : Heap} {k : Nat} {f : Addr} {fd : FuncData} (F : Fun K "_law_fraction" "_law_fraction" s_law_fraction f fd) (T : Txt K mg) : FnM P w K mg base (k + 1) f fd ["p", "q"] false (fnM false 4 (m_law_fraction)) :=
  fnM_of F sc_law_fraction fun cdv A outer s H G =>
    (sss_cons (ss_par G.calm G.nd (sa_cons (se_callB cd_abs T.n_abs (sab_cons (SE.toB (se_name 0)) sab_nil)) (sa_cons (se_callB cd_abs T.n_abs (sab_cons (SE.toB (se_name 1)) sab_nil)) sa_nil)))
    (sss_cons (ss_while 1000000000000000000000000000000000000000000000000000000000000000000000000000000000000000000000000000000000000000000000000000000000000000000000000000000000000000000000000000000000000000000000000000000000000000000000000000000000000000000000000000000000000000000000000000000000000000000000000000000000000 PassesOwn.never (st_cmp opd_gt (SE.toB (se_name 3)) (SE.toB se_int)) (sss_one (ss_par G.calm G.nd (sa_cons (se_name 3) (sa_cons (se_op opd_mod (SE.toB (se_callT cd_int T.n_int (sab_cons (SE.toB (se_name 2)) sab_nil))) (SE.toB (se_name 3))) sa_nil)))))
    (sss_cons (ss_set G.nd (se_if (st_cmp opd_gt (SE.toB (se_name 1)) (SE.toB se_int)) (se_name 2) (se_op opd_sub (SE.toB se_int) (SE.toB (se_name 2)))))
    (sss_one (ss_ret (se_tup (sa_cons (se_op opd_fdiv (SE.toB (se_name 0)) (SE.toB (se_name 2))) (sa_cons (se_op opd_fdiv (SE.toB (se_name 1)) (SE.toB (se_name 2))) sa_nil))))))))
def m_law_plus : Ev → M Fl :=
  mRet (mCall 2 mf_law_fraction (mCons (mOp addD (mOp mulD (mOp ixD (mName 0) (mC (.int 0))) (mOp ixD (mName 1) (mC (.int 1)))) (mOp mulD (mOp ixD (mName 1) (mC (.int 0))) (mOp ixD (mName 0) (mC (.int 1))))) (mCons (mOp mulD (mOp ixD (mName 0) (mC (.int 1))) (mOp ixD (mName 1) (mC (.int 1)))) (mNil))))
def mf_law_plus : List PyData → M PyData := fnM false 2 m_law_plus
theorem sc_law_plus : FnScope ["a", "b"] ["a", "b"] (defScope s_law_plus) := ⟨rfl, rfl, rfl, by decide +kernel, rfl, by decide +kernel, by decide +kernel⟩
theorem w_law_plus {P : Program} {w : World} {K : PySem.W.Frag} {mg : Str → Option Value} {base : Heap} {k : Nat} {f : Addr} {fd : FuncData} (F : Fun K "_law_plus" "_law_plus" s_law_plus f fd) (T : Txt K mg) (D_law_fraction : Def P w K mg base k "_law_fraction" ["p", "q"] false mf_law_fraction) : FnM P w K mg base (k + 1) f fd ["a", "b"] false (fnM false 2 (m_law_plus)) :=
  fnM_of F sc_law_plus fun cdv A outer s H G =>
    (sss_one (ss_ret (se_callD G D_law_fraction (sa_cons (se_op opd_add (SE.toB (se_op opd_mul (SE.toB (se_ix (SE.toB (se_name 0)) (SE.toB se_int))) (SE.toB (se_ix (SE.toB (se_name 1)) (SE.toB se_int))))) (SE.toB (se_op opd_mul (SE.toB (se_ix (SE.toB (se_name 1)) (SE.toB se_int))) (SE.toB (se_ix (SE.toB (se_name 0)) (SE.toB se_int)))))) (sa_cons (se_op opd_mul (SE.toB (se_ix (SE.toB (se_name 0)) (SE.toB se_int))) (SE.toB (se_ix (SE.toB (se_name 1)) (SE.toB se_int)))) sa_nil)))))
def m_law_by : Ev → M Fl :=
  mRet (mCall 2 mf_law_fraction (mCons (mOp mulD (mOp ixD (mName 0) (mC (.int 0))) (mOp ixD (mName 1) (mC (.int 0)))) (mCons (mOp mulD (mOp ixD (mName 0) (mC (.int 1))) (mOp ixD (mName 1) (mC (.int 1)))) (mNil))))
def mf_law_by : List PyData → M PyData := fnM false 2 m_law_by
theorem sc_law_by : FnScope ["a", "b"] ["a", "b"] (defScope s_law_by) := ⟨rfl, rfl, rfl, by decide +kernel, rfl, by decide +kernel, by decide +kernel⟩
theorem w_law_by {P : Program} {w : World} {K : PySem.W.Frag} {mg : Str → Option Value} {base : Heap} {k : Nat} {f : Addr} {fd : FuncData} (F : Fun K "_law_by" "_law_by" s_law_by f fd) (T : Txt K mg) (D_law_fraction : Def P w K mg base k "_law_fraction" ["p", "q"] false mf_law_fraction) : FnM P w K mg base (k + 1) f fd ["a", "b"] false (fnM false 2 (m_law_by)) :=
  fnM_of F sc_law_by fun cdv A outer s H G =>
    (sss_one (ss_ret (se_callD G D_law_fraction (sa_cons (se_op opd_mul (SE.toB (se_ix (SE.toB (se_name 0)) (SE.toB se_int))) (SE.toB (se_ix (SE.toB (se_name 1)) (SE.toB se_int)))) (sa_cons (se_op opd_mul (SE.toB (se_ix (SE.toB (se_name 0)) (SE.toB se_int))) (SE.toB (se_ix (SE.toB (se_name 1)) (SE.toB se_int)))) sa_nil)))))
def m_law_drawn_fraction : Ev → M Fl :=
  mRet (mCall 2 mf_law_fraction (mCons (mCallS 1 0 mf_law_of (mCons (mFrz (mLst (mCons (mC (.int 1)) (mCons (mUn negD (mC (.int 1))) (mCons (mC (.int 2)) (mCons (mC (.int 5)) (mCons (mUn negD (mC (.int 7))) (mCons (mOp powD (mC (.int 10)) (mC (.int 12))) (mNil))))))))) (mNil))) (mCons (mCallS 1 0 mf_law_of (mCons (mFrz (mLst (mCons (mC (.int 1)) (mCons (mC (.int 1)) (mCons (mC (.int 2)) (mCons (mC (.int 3)) (mCons (mC (.int 12)) (mNil)))))))) (mNil))) (mNil))))
def mf_law_drawn_fraction : List PyData → M PyData := fnM true 1 m_law_drawn_fraction
theorem sc_law_drawn_fraction : FnScope ["source"] ["source"] (defScope s_law_drawn_fraction) := ⟨rfl, rfl, rfl, by decide +kernel, rfl, by decide +kernel, by decide +kernel⟩
theorem w_law_drawn_fraction {P : Program} {w : World} {K : PySem.W.Frag} {mg : Str → Option Value} {base : Heap} {k : Nat} {f : Addr} {fd : FuncData} (F : Fun K "_law_drawn_fraction" "_law_drawn_fraction" s_law_drawn_fraction f fd) (T : Txt K mg) (D_law_fraction : Def P w K mg base k "_law_fraction" ["p", "q"] false mf_law_fraction) (D_law_of : Def P w K mg base k "_law_of" ["source", "some"] true mf_law_of) : FnM P w K mg base (k + 1) f fd ["source"] true (fnM true 1 (m_law_drawn_fraction)) :=
  fnM_of F sc_law_drawn_fraction fun cdv A outer s H G =>
    (sss_one (ss_ret (se_callD G D_law_fraction (sa_cons (se_callDS G D_law_of (pv 0) (sa_cons (SF.toE (sf_lst (sa_cons se_int (sa_cons (se_neg (SE.toB se_int)) (sa_cons se_int (sa_cons se_int (sa_cons (se_neg (SE.toB se_int)) (sa_cons (se_op opd_pow (SE.toB se_int) (SE.toB se_int)) sa_nil)))))))) sa_nil)) (sa_cons (se_callDS G D_law_of (pv 0) (sa_cons (SF.toE (sf_lst (sa_cons se_int (sa_cons se_int (sa_cons se_int (sa_cons se_int (sa_cons se_int sa_nil))))))) sa_nil)) sa_nil)))))
def m_law_poly : Ev → M Fl :=
  mSeq (mSetD 2 (mDNil)) (mSeq (mFor (mRng rng1D (mCons (mCallS 1 0 mf_law_pick (mCons (mOp addD (mName 1) (mC (.int 1))) (mNil))) (mNil))) (gSet 3) (mDPut 2 (mOp subD (mCallS 1 0 mf_law_pick (mCons (mC (.int 9)) (mNil))) (mC (.int 3))) (mCallS 0 0 mf_law_drawn_fraction (mNil)))) (mRet (mCl tupleD (mCons (mFrz (mLc (mSeqI (mFrz (mCl sortedDL (mCons (mOwn 2) (mNil))))) (gSet 4) (mYes) (mTup (mCons (mName 4) (mCons (mOp dgetD (mOwn 2) (mName 4)) (mNil)))) [4])) (mNil)))))
def mf_law_poly : List PyData → M PyData := fnM true 5 m_law_poly
theorem sc_law_poly : FnScope ["source", "many", "found", "turn", "i"] ["source", "many"] (defScope s_law_poly) := ⟨rfl, rfl, rfl, by decide +kernel, rfl, by decide +kernel, by decide +kernel⟩
theorem w_law_poly {P : Program} {w : World} {K : PySem.W.Frag} {mg : Str → Option Value} {base : Heap} {k : Nat} {f : Addr} {fd : FuncData} (F : Fun K "_law_poly" "_law_poly" s_law_poly f fd) (T : Txt K mg) (D_law_pick : Def P w K mg base k "_law_pick" ["source", "most"] true mf_law_pick) (D_law_drawn_fraction : Def P w K mg base k "_law_drawn_fraction" ["source"] true mf_law_drawn_fraction) : FnM P w K mg base (k + 1) f fd ["source", "many"] true (fnM true 5 (m_law_poly)) :=
  fnM_of F sc_law_poly fun cdv A outer s H G =>
    (sss_cons (ss_setD G.nd sd_nil)
    (sss_cons (ss_for (w := false) (ws := [3]) PassesOwn.never G.calm (si_range1 T.n_range (sa_cons (se_callDS G D_law_pick (pv 0) (sa_cons (se_op opd_add (SE.toB (se_name 1)) (SE.toB se_int)) sa_nil)) sa_nil)) (sg_name G.nd) (sss_one (ss_dput G.u1 (pv 2) (SE.toB (se_op opd_sub (SE.toB (se_callDS G D_law_pick (pv 0) (sa_cons se_int sa_nil))) (SE.toB se_int))) (se_callDS G D_law_drawn_fraction (pv 0) sa_nil))))
    (sss_one (ss_ret (se_callT cd_tuple T.n_tuple (sab_cons (SF.toB (sf_lc (w := false) (own := [("i", 4)]) G.calm G.nd (sj_seq (SF.toB (sf_callB (cf_sortedD G.calm) T.n_sorted (sab_cons (sb_name 2) sab_nil)))) (blk_c ["source", "many", "found", "turn", "i"] (defScope s_law_poly) rfl (by decide +kernel) (by decide +kernel) (by decide +kernel) (by decide +kernel)) (fun _ _ _ _ _ => (sg_name (G.blk).nd)) (fun _ _ _ _ _ => sts_nil) (fun _ _ _ _ _ => (se_tup (sa_cons (se_name 4) (sa_cons (se_dget (G.blk).u1 (sb_name 2) (SE.toB (se_name 4))) sa_nil)))))) sab_nil))))))
def m_law_at : Ev → M Fl :=
  mSeq (mSet 2 (mTup (mCons (mC (.int 0)) (mCons (mC (.int 1)) (mNil))))) (mSeq (mFor (mSeqI (mName 0)) (gTupD 2 (gsCons (gSet 3) (gsCons (gSet 4) (gsNil)))) (mSeq (mFor (mRng rng1D (mCons (mCl absD (mCons (mName 3) (mNil))) (mNil))) (gSet 5) (mSet 4 (mCall 2 mf_law_by (mCons (mName 4) (mCons (mIfE (mAsB (mOp gtD (mName 3) (mC (.int 0)))) (mTup (mCons (mName 1) (mCons (mC (.int 1)) (mNil)))) (mTup (mCons (mC (.int 1)) (mCons (mName 1) (mNil))))) (mNil)))))) (mSet 2 (mCall 2 mf_law_plus (mCons (mName 2) (mCons (mName 4) (mNil))))))) (mRet (mName 2)))
def mf_law_at : List PyData → M PyData := fnM false 6 m_law_at
theorem sc_law_at : FnScope ["poly", "s", "total", "i", "c", "turn"] ["poly", "s"] (defScope s_law_at) := ⟨rfl, rfl, rfl, by decide +kernel, rfl, by decide +kernel, by decide +kernel⟩
theorem w_law_at {P : Program} {w : World} {K : PySem.W.Frag} {mg : Str → Option Value} {base : Heap} {k : Nat} {f : Addr} {fd : FuncData} (F : Fun K "_law_at" "_law_at" s_law_at f fd) (T : Txt K mg) (D_law_by : Def P w K mg base k "_law_by" ["a", "b"] false mf_law_by) (D_law_plus : Def P w K mg base k "_law_plus" ["a", "b"] false mf_law_plus) : FnM P w K mg base (k + 1) f fd ["poly", "s"] false (fnM false 6 (m_law_at)) :=
  fnM_of F sc_law_at fun cdv A outer s H G =>
    (sss_cons (ss_set G.nd (se_tup (sa_cons se_int (sa_cons se_int sa_nil))))
    (sss_cons (ss_for (w := false) (ws := [3, 4]) PassesOwn.never G.calm (si_seq (se_name 0)) (sg_tup G.calm (sgs_cons (sg_name G.nd) (sgs_cons (sg_name G.nd) sgs_nil))) (sss_cons (ss_for (w := false) (ws := [5]) PassesOwn.never G.calm (si_range1 T.n_range (sa_cons (se_callB cd_abs T.n_abs (sab_cons (SE.toB (se_name 3)) sab_nil)) sa_nil)) (sg_name G.nd) (sss_one (ss_set G.nd (se_callD G D_law_by (sa_cons (se_name 4) (sa_cons (se_if (st_cmp opd_gt (SE.toB (se_name 3)) (SE.toB se_int)) (se_tup (sa_cons (se_name 1) (sa_cons se_int sa_nil))) (se_tup (sa_cons se_int (sa_cons (se_name 1) sa_nil)))) sa_nil))))))
    (sss_one (ss_set G.nd (se_callD G D_law_plus (sa_cons (se_name 2) (sa_cons (se_name 4) sa_nil)))))))
    (sss_one (ss_ret (se_name 2)))))
def m_law_powers : Ev → M Fl :=
  mSeq (mSet 2 (mFrz (mLst (mCons (mTup (mCons (mTup (mNil)) (mCons (mC (.int 1)) (mNil)))) (mNil))))) (mSeq (mFor (mSeqI (mName 0)) (gSet 3) (mSeq (mSetF 4 (mLst (mNil))) (mSeq (mFor (mSeqI (mName 2)) (gTupD 2 (gsCons (gSet 5) (gsCons (gSet 6) (gsNil)))) (mFor (mRng rng2D (mCons (mOp addD (mC (.int 1)) (mCl maxTD (mCons (mOp addD (mName 5) (mTup (mCons (mC (.int 0)) (mNil)))) (mNil)))) (mCons (mOp addD (mName 1) (mC (.int 1))) (mNil)))) (gSet 7) (mSeq (mSet 8 (mName 6)) (mSeq (mFor (mRng rng1D (mCons (mName 3) (mNil))) (gSet 9) (mSet 8 (mOp mulD (mName 8) (mName 7)))) (mAppend 4 (mTup (mCons (mOp addD (mCut cutD (mName 5) (mP (mUn negD (mC (.int 1)))) (mNoP)) (mTup (mCons (mName 7) (mNil)))) (mCons (mName 8) (mNil))))))))) (mSet 2 (mFrz (mCl listL (mCons (mOwn 4) (mNil)))))))) (mRet (mCl sumD (mCons (mFrz (mLc (mSeqI (mName 2)) (gTupD 2 (gsCons (gSet 5) (gsCons (gSet 6) (gsNil)))) (mYes) (mName 6) [5, 6])) (mNil)))))
def mf_law_powers : List PyData → M PyData := fnM false 10 m_law_powers
theorem sc_law_powers : FnScope ["exponents", "s", "found", "e", "late", "some", "part", "x", "more", "turn"] ["exponents", "s"] (defScope s_law_powers) := ⟨rfl, rfl, rfl, by decide +kernel, rfl, by decide +kernel, by decide +kernel⟩
theorem w_law_powers {P : Program} {w : World} {K : PySem.W.Frag} {mg : Str → Option Value} {base : Heap} {k : Nat} {f : Addr} {fd : FuncData} (F : Fun K "_law_powers" "_law_powers" s_law_powers f fd) (T : Txt K mg) : FnM P w K mg base (k + 1) f fd ["exponents", "s"] false (fnM false 10 (m_law_powers)) :=
  fnM_of F sc_law_powers fun cdv A outer s H G =>
    (sss_cons (ss_set G.nd (SF.toE (sf_lst (sa_cons (se_tup (sa_cons (se_tup sa_nil) (sa_cons se_int sa_nil))) sa_nil))))
    (sss_cons (ss_for (w := false) (ws := [3]) PassesOwn.never G.calm (si_seq (se_name 0)) (sg_name G.nd) (sss_cons (ss_setF G.nd (sf_lst sa_nil))
    (sss_cons (ss_for (w := false) (ws := [5, 6]) PassesOwn.never G.calm (si_seq (se_name 2)) (sg_tup G.calm (sgs_cons (sg_name G.nd) (sgs_cons (sg_name G.nd) sgs_nil))) (sss_one (ss_for (w := false) (ws := [7]) PassesOwn.never G.calm (si_range2 T.n_range (sa_cons (se_op opd_add (SE.toB se_int) (SE.toB (se_callB (cd_maxT G.calm G.u1) T.n_max (sab_cons (SE.toB (se_op opd_add (SE.toB (se_name 5)) (SE.toB (se_tup (sa_cons se_int sa_nil))))) sab_nil)))) (sa_cons (se_op opd_add (SE.toB (se_name 1)) (SE.toB se_int)) sa_nil))) (sg_name G.nd) (sss_cons (ss_set G.nd (se_name 6))
    (sss_cons (ss_for (w := false) (ws := [9]) PassesOwn.never G.calm (si_range1 T.n_range (sa_cons (se_name 3) sa_nil)) (sg_name G.nd) (sss_one (ss_set G.nd (se_op opd_mul (SE.toB (se_name 8)) (SE.toB (se_name 7))))))
    (sss_one (ss_append (se_tup (sa_cons (se_op opd_add (SE.toB (se_cut (SE.toB (se_name 5)) (sp_some (se_neg (SE.toB se_int))) sp_none)) (SE.toB (se_tup (sa_cons (se_name 7) sa_nil)))) (sa_cons (se_name 8) sa_nil))) (pv 4))))))))
    (sss_one (ss_set G.nd (SF.toE (sf_callT cf_list T.n_list (sab_cons (sb_name 4) sab_nil))))))))
    (sss_one (ss_ret (se_callB (cd_sum G.calm) T.n_sum (sab_cons (SF.toB (sf_lc (w := false) (own := [("some", 5), ("part", 6)]) G.calm G.nd (sj_seq (SE.toB (se_name 2))) (blk_c ["exponents", "s", "found", "e", "late", "some", "part", "x", "more", "turn"] (defScope s_law_powers) rfl (by decide +kernel) (by decide +kernel) (by decide +kernel) (by decide +kernel)) (fun _ _ _ _ _ => (sg_tup (G.blk).calm (sgs_cons (sg_name (G.blk).nd) (sgs_cons (sg_name (G.blk).nd) sgs_nil)))) (fun _ _ _ _ _ => sts_nil) (fun _ _ _ _ _ => (se_name 6)))) sab_nil))))))
theorem sc_law_open_cells : FnScope ["script", "stirred", "cell", "cells"] ["script"] (defScope s_law_open_cells) := ⟨rfl, rfl, rfl, by decide +kernel, rfl, by decide +kernel, by decide +kernel⟩
theorem w_law_open_cells {P : Program} {w : World} {K : PySem.W.Frag} {mg : Str → Option Value} {base : Heap} {k : Nat} {f : Addr} {fd : FuncData} (F : Fun K "_law_open_cells" "_law_open_cells" s_law_open_cells f fd) (n_int : mg "int" = none) (n_abs : mg "abs" = none) : FnG P w K mg base (k + 1) f fd ["script"] (spOpen K) :=
  fnG_of F sc_law_open_cells (fun vs H Q h => by obtain ⟨a, ns, rfl, _⟩ := h; rfl) fun cdv A outer s H vs Q hr hgu ⟨a, ns, ev, hS, hz, q⟩ => by
    subst ev
    refine ⟨_, pss_cons (ps_set (i := 1) sc_law_open_cells.nd rfl (.inl rfl) pe_int)
      (pss_cons (ps_for PassesOwn.never rfl (pi_list (pv 0)) (pg_name (i := 2) sc_law_open_cells.nd rfl (.inl rfl))
        (pss_one (ps_set (i := 1) sc_law_open_cells.nd rfl (.inl rfl) (pe_op op_mod (pe_callTy call_int1 rfl n_int (by decide +kernel) (pa_cons (pe_op op_add (pe_op op_add (pe_op op_mul (pv 1) pe_int) (pe_op op_mul (pv 2) pe_int)) pe_int) pa_nil)) pe_int))))
      (pss_cons (ps_setLc (i := 3) (own := [("cell", 2)]) rfl sc_law_open_cells.nd rfl rfl rfl (pi_list (pv 0)) (blk_c ["script", "stirred", "cell", "cells"] (defScope s_law_open_cells) rfl (by decide +kernel) (by decide +kernel) (by decide +kernel) (by decide +kernel))
        (fun _ _ _ _ _ => pg_name (i := 2) sc_law_open_cells.nd rfl (.inl rfl)) (fun _ _ _ _ _ => pts_nil) (fun _ _ _ _ _ => pe_callB call_abs rfl n_abs (by decide +kernel) (pa_cons (pv 2) pa_nil)))
      (pss_one (ps_ret (pe_disp (pps_cons pe_str (pe_revL (pv 3)) (pps_cons pe_str pe_int (pps_cons pe_str (pv 1) (pps_cons pe_str pe_int pps_nil)))) rfl rfl (by decide) (by decide)))))), ?_⟩
    exact open_read hS hz q

def m_law : Ev → M Fl :=
  mSeq (mFor (mRng rng1D (mCons (mC (.int 3)) (mNil))) (gSet 2) (mSeq (mSet 3 (mCallS 1 1 mf_law_pick (mCons (mC (.int 13)) (mNil)))) (mSeq (mPar [4, 5] (mCons (mCall 1 mf_sum_below (mCons (mName 3) (mNil))) (mCons (mC (.int 0)) (mNil)))) (mSeq (mFor (mRng rng2D (mCons (mC (.int 1)) (mCons (mC (.int 15)) (mNil)))) (gSet 6) (mSeq (mIfS (mAsB (mOp neD (mCl reprL (mCons (mCall 2 mf_poly_at (mCons (mName 4) (mCons (mName 6) (mNil)))) (mNil))) (mCl reprL (mCons (mTup (mCons (mName 5) (mCons (mC (.int 1)) (mNil)))) (mNil))))) (mRet (mC (.bool false))) (mPass)) (mSeq (mSet 7 (mC (.int 1))) (mSeq (mFor (mRng rng1D (mCons (mName 3) (mNil))) (gSet 8) (mSet 7 (mOp mulD (mName 7) (mName 6)))) (mSet 5 (mOp addD (mName 5) (mName 7))))))) (mSeq (mIfS (mOrT (mAsB (mOp neD (mOp ixD (mName 4) (mUn negD (mC (.int 1)))) (mTup (mCons (mOp addD (mName 3) (mC (.int 1))) (mCons (mTup (mCons (mC (.int 1)) (mCons (mOp addD (mName 3) (mC (.int 1))) (mNil)))) (mNil)))))) (mAsB (mOp notBD (mCall 1 mf_is_poly (mCons (mName 4) (mNil))) (mC (.bool true))))) (mRet (mC (.bool false))) (mPass)) (mSeq (mSet 9 (mCl tupleD (mCons (mFrz (mLc (mSeqI (mCallS 1 1 mf_law_poly (mCons (mC (.int 4)) (mNil)))) (gTupD 2 (gsCons (gSet 16) (gsCons (gSet 17) (gsNil)))) (mAsB (mOp geD (mName 16) (mC (.int 0)))) (mTup (mCons (mName 16) (mCons (mName 17) (mNil)))) [16, 17])) (mNil)))) (mSeq (mPar [10, 11] (mCons (mCall 1 mf_summed_below (mCons (mName 9) (mNil))) (mCons (mTup (mCons (mC (.int 0)) (mCons (mC (.int 1)) (mNil)))) (mNil)))) (mSeq (mFor (mRng rng2D (mCons (mC (.int 1)) (mCons (mC (.int 9)) (mNil)))) (gSet 6) (mSeq (mIfS (mAsB (mOp neD (mCl reprL (mCons (mCall 2 mf_poly_at (mCons (mName 10) (mCons (mName 6) (mNil)))) (mNil))) (mCl reprL (mCons (mName 11) (mNil))))) (mRet (mC (.bool false))) (mPass)) (mSet 11 (mCall 2 mf_law_plus (mCons (mName 11) (mCons (mCall 2 mf_law_at (mCons (mName 9) (mCons (mName 6) (mNil)))) (mNil))))))) (mSeq (mSetF 12 (mLc (mRng rng1D (mCons (mCallS 1 1 mf_law_pick (mCons (mC (.int 5)) (mNil))) (mNil))) (gSet 8) (mYes) (mCallS 1 1 mf_law_pick (mCons (mC (.int 4)) (mNil))) [8])) (mSeq (mFz 12 (mSet 13 (mCall 1 mf_power_sum (mCons (mName 12) (mNil))))) (mSeq (mIfS (mOrT (mAsB (mOp neD (mCl reprL (mCons (mName 13) (mNil))) (mCl reprL (mCons (mCall 1 mf_power_sum (mCons (mCl tupleD (mCons (mOwn 12) (mNil))) (mNil))) (mNil))))) (mAsB (mOp notBD (mCall 1 mf_is_poly (mCons (mName 13) (mNil))) (mC (.bool true))))) (mRet (mC (.bool false))) (mPass)) (mSeq (mFor (mRng rng2D (mCons (mC (.int 1)) (mCons (mIfE (mAsB (mOp gtD (mCl lenD (mCons (mOwn 12) (mNil))) (mC (.int 2)))) (mC (.int 8)) (mC (.int 13))) (mNil)))) (gSet 14) (mFz 12 (mIfS (mAsB (mOp neD (mCl reprL (mCons (mCall 2 mf_poly_at (mCons (mName 13) (mCons (mName 14) (mNil)))) (mNil))) (mCl reprL (mCons (mTup (mCons (mCall 2 mf_law_powers (mCons (mName 12) (mCons (mName 14) (mNil)))) (mCons (mC (.int 1)) (mNil)))) (mNil))))) (mRet (mC (.bool false))) (mPass)))) (mSeq (mIfS (mOrT (mAsB (mOp neD (mOp ixD (mOp ixD (mName 13) (mUn negD (mC (.int 1)))) (mC (.int 0))) (mOp addD (mCl sumD (mCons (mOwn 12) (mNil))) (mCl lenD (mCons (mOwn 12) (mNil)))))) (mAsB (mOp neD (mOp eqD (mOp ixD (mOp ixD (mName 13) (mC (.int 0))) (mC (.int 0))) (mC (.int 0))) (mOp eqD (mOwn 12) (mFrz (mLst (mNil))))))) (mRet (mC (.bool false))) (mPass)) (mIfS (mAndT (mAsB (mOp neD (mOwn 12) (mFrz (mLst (mNil))))) (mAsB (mOp eqD (mCut cutD (mOwn 12) (mP (mC (.int 1))) (mNoP)) (mFrz (mLst (mNil)))))) (mSeq (mSet 15 (mCall 2 mf_poly_sum (mCons (mCall 1 mf_sum_below (mCons (mOp ixD (mOwn 12) (mC (.int 0))) (mNil))) (mCons (mTup (mCons (mTup (mCons (mOp ixD (mOwn 12) (mC (.int 0))) (mCons (mTup (mCons (mC (.int 1)) (mCons (mC (.int 1)) (mNil)))) (mNil)))) (mNil))) (mNil))))) (mIfS (mAsB (mOp neD (mCl reprL (mCons (mName 15) (mNil))) (mCl reprL (mCons (mName 13) (mNil))))) (mRet (mC (.bool false))) (mPass))) (mPass))))))))))))))) (mRet (mAndV (mOp eqD (mCall 1 mf_power_sum (mCons (mTup (mCons (mC (.int 0)) (mCons (mC (.int 0)) (mNil)))) (mNil))) (mTup (mCons (mTup (mCons (mC (.int 1)) (mCons (mTup (mCons (mUn negD (mC (.int 1))) (mCons (mC (.int 2)) (mNil)))) (mNil)))) (mCons (mTup (mCons (mC (.int 2)) (mCons (mTup (mCons (mC (.int 1)) (mCons (mC (.int 2)) (mNil)))) (mNil)))) (mNil))))) (mOp eqD (mCall 1 mf_sum_below (mCons (mC (.int 0)) (mNil))) (mTup (mCons (mTup (mCons (mC (.int 0)) (mCons (mTup (mCons (mUn negD (mC (.int 1))) (mCons (mC (.int 1)) (mNil)))) (mNil)))) (mCons (mTup (mCons (mC (.int 1)) (mCons (mTup (mCons (mC (.int 1)) (mCons (mC (.int 1)) (mNil)))) (mNil)))) (mNil)))))))
theorem sc_law : FnScope ["script", "source", "lap", "e", "below", "total", "y", "more", "turn", "poly", "summed", "here", "exponents", "told", "s", "both", "i", "c"] ["script"] (defScope s_law) := ⟨rfl, rfl, rfl, by decide +kernel, rfl, by decide +kernel, by decide +kernel⟩
theorem w_law {P : Program} {w : World} {K : PySem.W.Frag} {mg : Str → Option Value} {base : Heap} {k : Nat} {f fo : Addr} {fd fdo : FuncData} (F : Fun K "law" "law" s_law f fd) (T : Txt K mg) (Fo : FnG P w K mg base k fo fdo ["script"] (spOpen K)) (mo : mg "_law_open_cells" = some (.ref fo)) (ko : PySem.W.keepIn K (.ref fo) = true) (bo : Binds K fdo ["script"] []) (D_law_pick : Def P w K mg base k "_law_pick" ["source", "most"] true mf_law_pick) (D_sum_below : Def P w K mg base k "sum_below" ["e"] false mf_sum_below) (D_poly_at : Def P w K mg base k "poly_at" ["poly", "s"] false mf_poly_at) (D_is_poly : Def P w K mg base k "is_poly" ["value"] false mf_is_poly) (D_law_poly : Def P w K mg base k "_law_poly" ["source", "many"] true mf_law_poly) (D_summed_below : Def P w K mg base k "summed_below" ["poly"] false mf_summed_below) (D_law_plus : Def P w K mg base k "_law_plus" ["a", "b"] false mf_law_plus) (D_law_at : Def P w K mg base k "_law_at" ["poly", "s"] false mf_law_at) (D_power_sum : Def P w K mg base k "power_sum" ["exponents"] false mf_power_sum) (D_law_powers : Def P w K mg base k "_law_powers" ["exponents", "s"] false mf_law_powers) (D_poly_sum : Def P w K mg base k "poly_sum" ["a", "b"] false mf_poly_sum) (hm : LawOk 18 m_law) : FnG P w K mg base (k + 1) f fd ["script"] (spLaw K) :=
  fnG_law F sc_law (by decide) hm fun cdv A outer s H G =>
    pss_cons (ps_set (i := 1) G.nd rfl (Or.inr rfl) (pe_callG Fo G.room G.gu mo ko bo (pa_cons (pv 0) pa_nil)))
    (pss_law (sss_cons (ss_for (w := false) (ws := [2]) PassesOwn.never G.calm (si_range1 T.n_range (sa_cons se_int sa_nil)) (sg_name G.nd) (sss_cons (ss_set G.nd (se_callDS G D_law_pick (pv 1) (sa_cons se_int sa_nil)))
    (sss_cons (ss_par G.calm G.nd (sa_cons (se_callD G D_sum_below (sa_cons (se_name 3) sa_nil)) (sa_cons se_int sa_nil)))
    (sss_cons (ss_for (w := false) (ws := [6]) PassesOwn.never G.calm (si_range2 T.n_range (sa_cons se_int (sa_cons se_int sa_nil))) (sg_name G.nd) (sss_cons (ss_if (st_cmp (opd_ne G.u) (SE.toB (se_callE (ce_repr G.gu G.u) T.n_repr (sa_cons (se_callD G D_poly_at (sa_cons (se_name 4) (sa_cons (se_name 6) sa_nil))) sa_nil))) (SE.toB (se_callE (ce_repr G.gu G.u) T.n_repr (sa_cons (se_tup (sa_cons (se_name 5) (sa_cons se_int sa_nil))) sa_nil)))) (sss_one (ss_ret se_bl)) sss_nil)
    (sss_cons (ss_set G.nd se_int)
    (sss_cons (ss_for (w := false) (ws := [8]) PassesOwn.never G.calm (si_range1 T.n_range (sa_cons (se_name 3) sa_nil)) (sg_name G.nd) (sss_one (ss_set G.nd (se_op opd_mul (SE.toB (se_name 7)) (SE.toB (se_name 6))))))
    (sss_one (ss_set G.nd (se_op opd_add (SE.toB (se_name 5)) (SE.toB (se_name 7)))))))))
    (sss_cons (ss_if (SW.t (sw_or (st_cmp (opd_ne G.u) (SE.toB (se_ix (SE.toB (se_name 4)) (SE.toB (se_neg (SE.toB se_int))))) (SE.toB (se_tup (sa_cons (se_op opd_add (SE.toB (se_name 3)) (SE.toB se_int)) (sa_cons (se_tup (sa_cons se_int (sa_cons (se_op opd_add (SE.toB (se_name 3)) (SE.toB se_int)) sa_nil))) sa_nil))))) (sw_or1 (st_cmp opd_isnot (SE.toB (se_callD G D_is_poly (sa_cons (se_name 4) sa_nil))) (SE.toB se_bl))))) (sss_one (ss_ret se_bl)) sss_nil)
    (sss_cons (ss_set G.nd (se_callT cd_tuple T.n_tuple (sab_cons (SF.toB (sf_lc (w := false) (own := [("i", 16), ("c", 17)]) G.calm G.nd (sj_seq (SE.toB (se_callDS G D_law_poly (pv 1) (sa_cons se_int sa_nil)))) (blk_c ["script", "source", "lap", "e", "below", "total", "y", "more", "turn", "poly", "summed", "here", "exponents", "told", "s", "both", "i", "c"] (defScope s_law) rfl (by decide +kernel) (by decide +kernel) (by decide +kernel) (by decide +kernel)) (fun _ _ _ _ _ => (sg_tup (G.blk).calm (sgs_cons (sg_name (G.blk).nd) (sgs_cons (sg_name (G.blk).nd) sgs_nil)))) (fun _ _ _ _ _ => (sts_one (st_cmp opd_ge (SE.toB (se_name 16)) (SE.toB se_int)))) (fun _ _ _ _ _ => (se_tup (sa_cons (se_name 16) (sa_cons (se_name 17) sa_nil)))))) sab_nil)))
    (sss_cons (ss_par G.calm G.nd (sa_cons (se_callD G D_summed_below (sa_cons (se_name 9) sa_nil)) (sa_cons (se_tup (sa_cons se_int (sa_cons se_int sa_nil))) sa_nil)))
    (sss_cons (ss_for (w := false) (ws := [6]) PassesOwn.never G.calm (si_range2 T.n_range (sa_cons se_int (sa_cons se_int sa_nil))) (sg_name G.nd) (sss_cons (ss_if (st_cmp (opd_ne G.u) (SE.toB (se_callE (ce_repr G.gu G.u) T.n_repr (sa_cons (se_callD G D_poly_at (sa_cons (se_name 10) (sa_cons (se_name 6) sa_nil))) sa_nil))) (SE.toB (se_callE (ce_repr G.gu G.u) T.n_repr (sa_cons (se_name 11) sa_nil)))) (sss_one (ss_ret se_bl)) sss_nil)
    (sss_one (ss_set G.nd (se_callD G D_law_plus (sa_cons (se_name 11) (sa_cons (se_callD G D_law_at (sa_cons (se_name 9) (sa_cons (se_name 6) sa_nil))) sa_nil)))))))
    (sss_cons (ss_setLc (w := false) (own := [("turn", 8)]) G.calm G.nd (SI.toJ (si_range1 T.n_range (sa_cons (se_callDS G D_law_pick (pv 1) (sa_cons se_int sa_nil)) sa_nil))) (blk_c ["script", "source", "lap", "e", "below", "total", "y", "more", "turn", "poly", "summed", "here", "exponents", "told", "s", "both", "i", "c"] (defScope s_law) rfl (by decide +kernel) (by decide +kernel) (by decide +kernel) (by decide +kernel)) rfl (fun _ _ _ _ _ => (sg_name (G.blk).nd)) (fun _ _ _ _ _ => sts_nil) (fun _ _ _ _ _ => (se_callDS (G.blk) D_law_pick (pv 1) (sa_cons se_int sa_nil))))
    (sss_cons (ss_fz 12 (ss_set G.nd (se_callD G D_power_sum (sa_cons (se_name 12) sa_nil))))
    (sss_cons (ss_if (SW.t (sw_or (st_cmp (opd_ne G.u) (SE.toB (se_callE (ce_repr G.gu G.u) T.n_repr (sa_cons (se_name 13) sa_nil))) (SE.toB (se_callE (ce_repr G.gu G.u) T.n_repr (sa_cons (se_callD G D_power_sum (sa_cons (se_callT cd_tuple T.n_tuple (sab_cons (sb_name 12) sab_nil)) sa_nil)) sa_nil)))) (sw_or1 (st_cmp opd_isnot (SE.toB (se_callD G D_is_poly (sa_cons (se_name 13) sa_nil))) (SE.toB se_bl))))) (sss_one (ss_ret se_bl)) sss_nil)
    (sss_cons (ss_for (w := false) (ws := [14]) PassesOwn.never G.calm (si_range2 T.n_range (sa_cons se_int (sa_cons (se_if (st_cmp opd_gt (SE.toB (se_callB cd_len T.n_len (sab_cons (sb_name 12) sab_nil))) (SE.toB se_int)) se_int se_int) sa_nil))) (sg_name G.nd) (sss_one (ss_fz 12 (ss_if (st_cmp (opd_ne G.u) (SE.toB (se_callE (ce_repr G.gu G.u) T.n_repr (sa_cons (se_callD G D_poly_at (sa_cons (se_name 13) (sa_cons (se_name 14) sa_nil))) sa_nil))) (SE.toB (se_callE (ce_repr G.gu G.u) T.n_repr (sa_cons (se_tup (sa_cons (se_callD G D_law_powers (sa_cons (se_name 12) (sa_cons (se_name 14) sa_nil))) (sa_cons se_int sa_nil))) sa_nil)))) (sss_one (ss_ret se_bl)) sss_nil))))
    (sss_cons (ss_if (SW.t (sw_or (st_cmp (opd_ne G.u) (SE.toB (se_ix (SE.toB (se_ix (SE.toB (se_name 13)) (SE.toB (se_neg (SE.toB se_int))))) (SE.toB se_int))) (SE.toB (se_op opd_add (SE.toB (se_callB (cd_sum G.calm) T.n_sum (sab_cons (sb_name 12) sab_nil))) (SE.toB (se_callB cd_len T.n_len (sab_cons (sb_name 12) sab_nil)))))) (sw_or1 (st_cmp (opd_ne G.u) (SE.toB (se_cmp (opd_eq G.u) (SE.toB (se_ix (SE.toB (se_ix (SE.toB (se_name 13)) (SE.toB se_int))) (SE.toB se_int))) (SE.toB se_int))) (SE.toB (se_cmp (opd_eq G.u) (sb_name 12) (SF.toB (sf_lst sa_nil)))))))) (sss_one (ss_ret se_bl)) sss_nil)
    (sss_one (ss_if (SW.t (sw_and (st_cmp (opd_ne G.u) (sb_name 12) (SF.toB (sf_lst sa_nil))) (sw_and1 (st_cmp (opd_eq G.u) (SE.toB (se_cut (sb_name 12) (sp_some se_int) sp_none)) (SF.toB (sf_lst sa_nil)))))) (sss_cons (ss_set G.nd (se_callD G D_poly_sum (sa_cons (se_callD G D_sum_below (sa_cons (se_ix (sb_name 12) (SE.toB se_int)) sa_nil)) (sa_cons (se_tup (sa_cons (se_tup (sa_cons (se_ix (sb_name 12) (SE.toB se_int)) (sa_cons (se_tup (sa_cons se_int (sa_cons se_int sa_nil))) sa_nil))) sa_nil)) sa_nil))))
    (sss_one (ss_if (st_cmp (opd_ne G.u) (SE.toB (se_callE (ce_repr G.gu G.u) T.n_repr (sa_cons (se_name 15) sa_nil))) (SE.toB (se_callE (ce_repr G.gu G.u) T.n_repr (sa_cons (se_name 13) sa_nil)))) (sss_one (ss_ret se_bl)) sss_nil))) sss_nil)))))))))))))))
    (sss_one (ss_ret (se_and (se_cmp (opd_eq G.u) (SE.toB (se_callD G D_power_sum (sa_cons (se_tup (sa_cons se_int (sa_cons se_int sa_nil))) sa_nil))) (SE.toB (se_tup (sa_cons (se_tup (sa_cons se_int (sa_cons (se_tup (sa_cons (se_neg (SE.toB se_int)) (sa_cons se_int sa_nil))) sa_nil))) (sa_cons (se_tup (sa_cons se_int (sa_cons (se_tup (sa_cons se_int (sa_cons se_int sa_nil))) sa_nil))) sa_nil))))) (se_one (se_cmp (opd_eq G.u) (SE.toB (se_callD G D_sum_below (sa_cons se_int sa_nil))) (SE.toB (se_tup (sa_cons (se_tup (sa_cons se_int (sa_cons (se_tup (sa_cons (se_neg (SE.toB se_int)) (sa_cons se_int sa_nil))) sa_nil))) (sa_cons (se_tup (sa_cons se_int (sa_cons (se_tup (sa_cons se_int (sa_cons se_int sa_nil))) sa_nil))) sa_nil)))))))))))
end K30
end

section
set_option Elab.async false
set_option linter.all false
set_option maxRecDepth 100000
set_option maxHeartbeats 4000000
namespace K30
open PySem PySem.Spec DL
def isInt : PyData → Bool
  | .int _ => true
  | _ => false
theorem is_integer_ok (d : PyData) : mf_is_integer [d] = pure (.bool (isInt d)) := by
  cases d <;> rfl
def isFrac : PyData → Bool
  | .tuple [.int p, .int q] => decide (0 < q) && decide (((Nat.gcd p.natAbs q.natAbs : Nat) : Int) = 1)
  | _ => false
theorem isTup_t (ds : List PyData) : isD "tuple" (.tuple ds) = some true := rfl
theorem lenD_t (ds : List PyData) : lenD [.tuple ds] = some (.int ds.length) := rfl
theorem sz_ok {α : Type} {ds : List α} (h : ds.length ≤ 1000000) : sz ds = some ds := if_pos h
theorem isFrac_len {ds : List PyData} (h : ds.length ≠ 2) : isFrac (.tuple ds) = false := by
  match ds, h with
  | [], _ => rfl
  | [_], _ => simp [isFrac]
  | [_, _], h => exact absurd rfl h
  | _ :: _ :: _ :: _, _ => simp [isFrac]
theorem two_of {ds : List PyData} (h : ds.length = 2) : ∃ x y, ds = [x, y] := by
  match ds, h with
  | [x, y], _ => exact ⟨x, y, rfl⟩
theorem is_fraction_ok (d : PyData) : mf_is_fraction [d] = pure (.bool (isFrac d)) := by
  refine fn_rt ?_
  cases d with
  | tuple ds =>
    by_cases hl : ds.length = 2
    · obtain ⟨x, y, rfl⟩ := two_of hl
      have hall : lcM [x, y] (lcF [.vl (.tuple [x, y]), .no] (gSet 1) mYes (mCall 1 mf_is_integer (mCons (mName 1) mNil)) [1]) = pure [.bool (isInt x), .bool (isInt y)] := lcM_bools (ds := [x, y]) (g := isInt) fun d _ => by
        unfold lcF
        simp only [mSeq, mIfS, mRet, mRetN, mPass, mOrT, mAndT, mNotT, mAsB, mIsi, mName, mOwn, mC, mOp, mOp3, mCl, mCons, mNil, mFrz, mFrzD, mSeqI, mCall, mAndV, mOrV, mNotV, mIfE, mTup, mLst, mSet, mSetF, mSetD, mPar, mUn, mUn', mCut, mP, mNoP, mIsN, mIsNot, mRng, mKeys, mYes, gSet, gTupD, gsCons, gsNil, mFz, mDrop, mAsg, mAppend, ev0, frzAt, wipeE, rdV_vl, rdB_vl, rdB_ol, rdB_od, asB_b, asI_i, seqD_l, seqD_t, lenI1, lenI2, lenI3, lft_some, pure_bind, getE0, getES, List.set_cons_zero, List.set_cons_succ, List.map_cons, List.map_nil, List.cons_append, List.nil_append, List.replicate_succ, List.replicate_zero, List.append_nil, List.length_cons, List.length_nil, if_true, if_false, ite_true, ite_false, Bool.false_eq_true, reduceIte, Bool.not_true, Bool.not_false, Nat.reduceAdd, Nat.reduceSub, List.zip_cons_cons, List.zip_nil_right, List.foldl_cons, List.foldl_nil, is_integer_ok]
      unfold m_is_fraction
      have hsz : sz [x, y] = some [x, y] := rfl
      have hal : allD [.list [.bool (isInt x), .bool (isInt y)]] = some (.bool ([isInt x, isInt y].all id)) := allD_map [isInt x, isInt y]
      have h0 : ixD (.tuple [x, y]) (.int 0) = some x := rfl
      have h1 : ixD (.tuple [x, y]) (.int 1) = some y := rfl
      simp [mSeq, mIfS, mRet, mRetN, mPass, mOrT, mAndT, mNotT, mAsB, mIsi, mName, mOwn, mC, mOp, mOp3, mCl, mCons, mNil, mFrz, mFrzD, mSeqI, mCall, mAndV, mOrV, mNotV, mIfE, mTup, mLst, mSet, mSetF, mSetD, mPar, mUn, mUn', mCut, mP, mNoP, mIsN, mIsNot, mRng, mKeys, mYes, gSet, gTupD, gsCons, gsNil, mFz, mDrop, mAsg, mAppend, ev0, frzAt, wipeE, rdV_vl, rdB_vl, rdB_ol, rdB_od, asB_b, asI_i, seqD_l, seqD_t, lenI1, lenI2, lenI3, lft_some, pure_bind, getE0, getES, List.set_cons_zero, List.set_cons_succ, List.map_cons, List.map_nil, List.cons_append, List.nil_append, List.replicate_succ, List.replicate_zero, List.append_nil, List.length_cons, List.length_nil, if_true, if_false, ite_true, ite_false, Bool.false_eq_true, reduceIte, Bool.not_true, Bool.not_false, Nat.reduceAdd, Nat.reduceSub, List.zip_cons_cons, List.zip_nil_right, List.foldl_cons, List.foldl_nil, isTup_t, lenD_t, neD_int, mLc, hsz, hall, hal]
      cases x <;> cases y <;> simp [isInt, isFrac]
      rename_i p q
      have hg : gtD (.int q) (.int 0) = some (.bool (decide (0 < q))) := rfl
      have hgc : gcdD [.int p, .int q] = some (.int (Nat.gcd p.natAbs q.natAbs : Nat)) := rfl
      simp [mSeq, mIfS, mRet, mRetN, mPass, mOrT, mAndT, mNotT, mAsB, mIsi, mName, mOwn, mC, mOp, mOp3, mCl, mCons, mNil, mFrz, mFrzD, mSeqI, mCall, mAndV, mOrV, mNotV, mIfE, mTup, mLst, mSet, mSetF, mSetD, mPar, mUn, mUn', mCut, mP, mNoP, mIsN, mIsNot, mRng, mKeys, mYes, gSet, gTupD, gsCons, gsNil, mFz, mDrop, mAsg, mAppend, ev0, frzAt, wipeE, rdV_vl, rdB_vl, rdB_ol, rdB_od, asB_b, asI_i, seqD_l, seqD_t, lenI1, lenI2, lenI3, lft_some, pure_bind, getE0, getES, List.set_cons_zero, List.set_cons_succ, List.map_cons, List.map_nil, List.cons_append, List.nil_append, List.replicate_succ, List.replicate_zero, List.append_nil, List.length_cons, List.length_nil, if_true, if_false, ite_true, ite_false, Bool.false_eq_true, reduceIte, Bool.not_true, Bool.not_false, Nat.reduceAdd, Nat.reduceSub, List.zip_cons_cons, List.zip_nil_right, List.foldl_cons, List.foldl_nil, h0, h1, hg, hgc, eqD_int]
      by_cases hq : 0 < q <;> simp [hq]
    · unfold m_is_fraction
      have hl' : ¬ ((ds.length : Int) = 2) := by omega
      simp [mSeq, mIfS, mRet, mRetN, mPass, mOrT, mAndT, mNotT, mAsB, mIsi, mName, mOwn, mC, mOp, mOp3, mCl, mCons, mNil, mFrz, mFrzD, mSeqI, mCall, mAndV, mOrV, mNotV, mIfE, mTup, mLst, mSet, mSetF, mSetD, mPar, mUn, mUn', mCut, mP, mNoP, mIsN, mIsNot, mRng, mKeys, mYes, gSet, gTupD, gsCons, gsNil, mFz, mDrop, mAsg, mAppend, ev0, frzAt, wipeE, rdV_vl, rdB_vl, rdB_ol, rdB_od, asB_b, asI_i, seqD_l, seqD_t, lenI1, lenI2, lenI3, lft_some, pure_bind, getE0, getES, List.set_cons_zero, List.set_cons_succ, List.map_cons, List.map_nil, List.cons_append, List.nil_append, List.replicate_succ, List.replicate_zero, List.append_nil, List.length_cons, List.length_nil, if_true, if_false, ite_true, ite_false, Bool.false_eq_true, reduceIte, Bool.not_true, Bool.not_false, Nat.reduceAdd, Nat.reduceSub, List.zip_cons_cons, List.zip_nil_right, List.foldl_cons, List.foldl_nil, isTup_t, lenD_t, neD_int, hl', isFrac_len hl]
  | _ => rfl

/-! ### Euclid -/
abbrev eC : Ev → M Bool := mAsB (mOp gtD (mName 3) (mC (.int 0)))
abbrev eB : Ev → M Fl := mPar [2, 3] (mCons (mName 3) (mCons (mOp modD (mCl intD (mCons (mName 2) (mNil))) (mName 3)) (mNil)))
theorem gtD_int (i j : Int) : gtD (.int i) (.int j) = some (.bool (decide (j < i))) := rfl
theorem intD_int (i : Int) : intD [.int i] = some (.int i) := rfl
theorem modD_pos {i j : Int} (h : 0 < j) : modD (.int i) (.int j) = some (.int (i % j)) := if_pos h
theorem absD_int (i : Int) : absD [.int i] = some (.int (if i < 0 then -i else i)) := rfl
theorem euclid_ok (P Q : Sl) : ∀ (n a b : Nat), b < n → whileM n eC eB [P, Q, .vl (.int a), .vl (.int b)] = pure (.nx [P, Q, .vl (.int (Nat.gcd a b : Nat)), .vl (.int 0)])
  | 0, _, _, h => absurd h (Nat.not_lt_zero _)
  | n + 1, a, b, h => by
    unfold whileM
    by_cases hb : b = 0
    · subst hb
      simp [mSeq, mIfS, mRet, mRetN, mPass, mOrT, mAndT, mNotT, mAsB, mIsi, mName, mOwn, mC, mOp, mOp3, mCl, mCons, mNil, mFrz, mFrzD, mSeqI, mCall, mAndV, mOrV, mNotV, mIfE, mTup, mLst, mSet, mSetF, mSetD, mPar, mUn, mUn', mCut, mP, mNoP, mIsN, mIsNot, mRng, mKeys, mYes, gSet, gTupD, gsCons, gsNil, mFz, mDrop, mAsg, mAppend, ev0, frzAt, wipeE, rdV_vl, rdB_vl, rdB_ol, rdB_od, asB_b, asI_i, seqD_l, seqD_t, lenI1, lenI2, lenI3, lft_some, pure_bind, getE0, getES, List.set_cons_zero, List.set_cons_succ, List.map_cons, List.map_nil, List.cons_append, List.nil_append, List.replicate_succ, List.replicate_zero, List.append_nil, List.length_cons, List.length_nil, if_true, if_false, ite_true, ite_false, Bool.false_eq_true, reduceIte, Bool.not_true, Bool.not_false, Nat.reduceAdd, Nat.reduceSub, List.zip_cons_cons, List.zip_nil_right, List.foldl_cons, List.foldl_nil, gtD_int]
    · have h0 : (0 : Int) < (b : Int) := by omega
      have ih := euclid_ok P Q n b (a % b) (by have := Nat.mod_lt a (Nat.pos_of_ne_zero hb); omega)
      have e : ((a : Int) % (b : Int)) = ((a % b : Nat) : Int) := rfl
      simp only [eC, eB, mSeq, mIfS, mRet, mRetN, mPass, mOrT, mAndT, mNotT, mAsB, mIsi, mName, mOwn, mC, mOp, mOp3, mCl, mCons, mNil, mFrz, mFrzD, mSeqI, mCall, mAndV, mOrV, mNotV, mIfE, mTup, mLst, mSet, mSetF, mSetD, mPar, mUn, mUn', mCut, mP, mNoP, mIsN, mIsNot, mRng, mKeys, mYes, gSet, gTupD, gsCons, gsNil, mFz, mDrop, mAsg, mAppend, ev0, frzAt, wipeE, rdV_vl, rdB_vl, rdB_ol, rdB_od, asB_b, asI_i, seqD_l, seqD_t, lenI1, lenI2, lenI3, lft_some, pure_bind, getE0, getES, List.set_cons_zero, List.set_cons_succ, List.map_cons, List.map_nil, List.cons_append, List.nil_append, List.replicate_succ, List.replicate_zero, List.append_nil, List.length_cons, List.length_nil, if_true, if_false, ite_true, ite_false, Bool.false_eq_true, reduceIte, Bool.not_true, Bool.not_false, Nat.reduceAdd, Nat.reduceSub, List.zip_cons_cons, List.zip_nil_right, List.foldl_cons, List.foldl_nil, gtD_int, intD_int, modD_pos h0, decide_eq_true h0, e] at ih ⊢
      rw [ih]
      congr 4
      rw [Nat.gcd_comm a b, Nat.gcd_rec b a, Nat.gcd_comm]

def fuel : Nat := 1000000000000000000000000000000000000000000000000000000000000000000000000000000000000000000000000000000000000000000000000000000000000000000000000000000000000000000000000000000000000000000000000000000000000000000000000000000000000000000000000000000000000000000000000000000000000000000000000000000000000
theorem fuel_lt {n : Nat} (h : n < 2 ^ 900) : n < fuel := Nat.lt_trans h (by decide +kernel)
theorem log2_small {g : Nat} (h : g < 2 ^ 900) : g.log2 < 9000 := by
  by_cases h0 : g = 0
  · subst h0; decide
  · exact Nat.lt_trans ((Nat.log2_lt h0).mpr h) (by decide)
theorem gcd_pos {p q : Int} (h : 0 < q) : 0 < Nat.gcd p.natAbs q.natAbs := Nat.gcd_pos_of_pos_right _ (by omega)
theorem gcd_le {p q : Int} (h : 0 < q) : Nat.gcd p.natAbs q.natAbs ≤ q.natAbs := Nat.le_of_dvd (by omega) (Nat.gcd_dvd_right _ _)
def fracD (p q : Int) : PyData := .tuple [.int (p / (Nat.gcd p.natAbs q.natAbs : Nat)), .int (q / (Nat.gcd p.natAbs q.natAbs : Nat))]
theorem iabs_nat (p : Int) : (if p < 0 then -p else p) = ((p.natAbs : Nat) : Int) := by split <;> omega
theorem law_fraction_ok {p q : Int} (h : 0 < q) (hq : q.natAbs < 2 ^ 900) : mf_law_fraction [.int p, .int q] = pure (fracD p q) := by
  have hn : q.natAbs < 1000000000000000000000000000000000000000000000000000000000000000000000000000000000000000000000000000000000000000000000000000000000000000000000000000000000000000000000000000000000000000000000000000000000000000000000000000000000000000000000000000000000000000000000000000000000000000000000000000000000000 := fuel_lt hq
  have hg := gcd_pos (p := p) h
  have hg2 := gcd_le (p := p) h
  have hf : ∀ i : Int, fdivD (.int i) (.int (Nat.gcd p.natAbs q.natAbs : Nat)) = some (.int (i / (Nat.gcd p.natAbs q.natAbs : Nat))) := fun i => if_pos ⟨Int.natCast_pos.mpr hg, log2_small (by rw [Int.natAbs_natCast]; exact Nat.lt_of_le_of_lt hg2 hq)⟩
  have hw := euclid_ok (.vl (.int p)) (.vl (.int q)) 1000000000000000000000000000000000000000000000000000000000000000000000000000000000000000000000000000000000000000000000000000000000000000000000000000000000000000000000000000000000000000000000000000000000000000000000000000000000000000000000000000000000000000000000000000000000000000000000000000000000000 p.natAbs q.natAbs hn
  refine fn_rt ?_
  unfold m_law_fraction
  simp only [eC, eB] at hw
  rw [mSeq]
  simp only [mSeq, mIfS, mRet, mRetN, mPass, mOrT, mAndT, mNotT, mAsB, mIsi, mName, mOwn, mC, mOp, mOp3, mCl, mCons, mNil, mFrz, mFrzD, mSeqI, mCall, mAndV, mOrV, mNotV, mIfE, mTup, mLst, mSet, mSetF, mSetD, mPar, mUn, mUn', mCut, mP, mNoP, mIsN, mIsNot, mRng, mKeys, mYes, gSet, gTupD, gsCons, gsNil, mFz, mDrop, mAsg, mAppend, ev0, frzAt, wipeE, rdV_vl, rdB_vl, rdB_ol, rdB_od, asB_b, asI_i, seqD_l, seqD_t, lenI1, lenI2, lenI3, lft_some, pure_bind, getE0, getES, List.set_cons_zero, List.set_cons_succ, List.map_cons, List.map_nil, List.cons_append, List.nil_append, List.replicate_succ, List.replicate_zero, List.append_nil, List.length_cons, List.length_nil, if_true, if_false, ite_true, ite_false, Bool.false_eq_true, reduceIte, Bool.not_true, Bool.not_false, Nat.reduceAdd, Nat.reduceSub, List.zip_cons_cons, List.zip_nil_right, List.foldl_cons, List.foldl_nil, absD_int, iabs_nat] at hw ⊢
  rw [hw]
  simp only [mSeq, mIfS, mRet, mRetN, mPass, mOrT, mAndT, mNotT, mAsB, mIsi, mName, mOwn, mC, mOp, mOp3, mCl, mCons, mNil, mFrz, mFrzD, mSeqI, mCall, mAndV, mOrV, mNotV, mIfE, mTup, mLst, mSet, mSetF, mSetD, mPar, mUn, mUn', mCut, mP, mNoP, mIsN, mIsNot, mRng, mKeys, mYes, gSet, gTupD, gsCons, gsNil, mFz, mDrop, mAsg, mAppend, ev0, frzAt, wipeE, rdV_vl, rdB_vl, rdB_ol, rdB_od, asB_b, asI_i, seqD_l, seqD_t, lenI1, lenI2, lenI3, lft_some, pure_bind, getE0, getES, List.set_cons_zero, List.set_cons_succ, List.map_cons, List.map_nil, List.cons_append, List.nil_append, List.replicate_succ, List.replicate_zero, List.append_nil, List.length_cons, List.length_nil, if_true, if_false, ite_true, ite_false, Bool.false_eq_true, reduceIte, Bool.not_true, Bool.not_false, Nat.reduceAdd, Nat.reduceSub, List.zip_cons_cons, List.zip_nil_right, List.foldl_cons, List.foldl_nil, gtD_int, decide_eq_true h, hf]
  rfl

theorem eqF_tup2 (a b c d : Int) : eqF (.tuple [.int a, .int b]) (.tuple [.int c, .int d]) = some (decide (a = c) && decide (b = d)) := by
  unfold eqF
  rw [if_pos ⟨rfl, rfl, .inl (by simp [PyData.depth, PyData.depthAll])⟩]
  simp [PyData.eqv, PyData.eqvAll]
  by_cases h : a = c <;> by_cases h2 : b = d <;> simp [h, h2]
theorem eqD_tup2 (a b c d : Int) : eqD (.tuple [.int a, .int b]) (.tuple [.int c, .int d]) = some (.bool (decide (a = c) && decide (b = d))) := by unfold eqD; rw [eqF_tup2]; rfl
theorem neD_tup2 (a b c d : Int) : neD (.tuple [.int a, .int b]) (.tuple [.int c, .int d]) = some (.bool (!(decide (a = c) && decide (b = d)))) := by unfold neD; rw [eqF_tup2]; rfl
theorem frac_same {p q : Int} (h : 0 < q) : (decide (p / (Nat.gcd p.natAbs q.natAbs : Nat) = p) && decide (q / (Nat.gcd p.natAbs q.natAbs : Nat) = q)) = decide (((Nat.gcd p.natAbs q.natAbs : Nat) : Int) = 1) := by
  have hg := gcd_pos (p := p) h
  generalize Nat.gcd p.natAbs q.natAbs = g at hg ⊢
  by_cases e : (g : Int) = 1
  · simp [e]
  · have hlt : q / (g : Int) < q := Int.ediv_lt_self_of_pos_of_ne_one h e
    have : ¬ (q / (g : Int) = q) := by omega
    simp [e, this]
/-- a number below, if the value is a pair of numbers -/
def Small2 (d : PyData) : Prop := ∀ p q : Int, d = .tuple [.int p, .int q] → q.natAbs < 2 ^ 900
def isPair : PyData → Bool
  | .tuple [_, _] => true
  | _ => false
theorem isPair_len (es : List PyData) : isPair (.tuple es) = decide ((es.length : Int) = 2) := by
  match es with
  | [] => rfl
  | [_] => rfl
  | [_, _] => rfl
  | _ :: _ :: _ :: r => simp [isPair]; omega
def nz : PyData → Bool
  | .tuple [.int p, .int q] => !(decide (p = 0) && decide (q = 1))
  | _ => true
def okE (i c : PyData) : Bool := isInt i && isFrac c && nz c
abbrev pr (e : PyData × PyData) : PyData := .tuple [e.1, e.2]
theorem pairs_ex : ∀ {ds : List PyData}, ds.all isPair = true → ∃ L : List (PyData × PyData), ds = L.map pr
  | [], _ => ⟨[], rfl⟩
  | d :: ds, h => by
    rw [List.all_cons, Bool.and_eq_true] at h
    obtain ⟨L, rfl⟩ := pairs_ex h.2
    match d, h.1 with
    | .tuple [i, c], _ => exact ⟨(i, c) :: L, rfl⟩
theorem frac_ex {c : PyData} (h : isFrac c = true) : ∃ p q, c = .tuple [.int p, .int q] := by
  unfold isFrac at h
  split at h
  · exact ⟨_, _, rfl⟩
  · cases h
theorem int_ex {c : PyData} (h : isInt c = true) : ∃ p, c = .int p := by
  unfold isInt at h
  split at h
  · exact ⟨_, rfl⟩
  · cases h
def keyI : PyData × PyData → Int
  | (.int i, _) => i
  | _ => 0
def rise (ks : List Int) : Bool := (List.zipWith (fun a b => decide (a < b)) ks (ks.drop 1)).all id
def isPoly : PyData → Bool
  | .tuple ds => ds.all isPair && (ds.all fun d => match d with | .tuple [i, c] => okE i c | _ => true) && rise (ds.map fun d => match d with | .tuple [.int i, _] => i | _ => 0)
  | _ => false
theorem zw {α β γ : Type} (f : α → β → γ) : ∀ (xs : List α) (ys : List β), List.zipWith f xs ys = (xs.zip ys).map fun p => f p.1 p.2
  | [], _ => rfl
  | _ :: _, [] => rfl
  | x :: xs, y :: ys => by rw [List.zipWith_cons_cons, List.zip_cons_cons, List.map_cons, zw f xs ys]
theorem zw2 {α β γ : Type} (g : α → β) (f : β → β → γ) (L : List α) : List.zipWith f (L.map g) ((L.map g).drop 1) = (L.zip (L.drop 1)).map fun p => f (g p.1) (g p.2) := by
  rw [← List.map_drop, List.zipWith_map, zw]
theorem mem_zip1 {α : Type} {L : List α} {p : α × α} (h : p ∈ L.zip (L.drop 1)) : p.1 ∈ L ∧ p.2 ∈ L := by
  obtain ⟨a, b⟩ := p
  exact ⟨(List.of_mem_zip h).1, List.mem_of_mem_drop (List.of_mem_zip h).2⟩
theorem isPoly_pr (L : List (PyData × PyData)) : isPoly (.tuple (L.map pr)) = ((L.map fun e => okE e.1 e.2).all id && rise (L.map keyI)) := by
  show ((L.map pr).all isPair && (L.map pr).all _ && rise ((L.map pr).map _)) = _
  simp only [List.all_map, List.map_map]
  have e1 : L.all (isPair ∘ pr) = true := List.all_eq_true.mpr fun e _ => rfl
  rw [e1, Bool.true_and]
  congr 2
  refine List.map_congr_left fun e _ => ?_
  obtain ⟨i, c⟩ := e
  cases i <;> rfl
theorem isPoly_np {ds : List PyData} (h : ds.all isPair = false) : isPoly (.tuple ds) = false := by
  show (ds.all isPair && _ && _) = false
  rw [h]; rfl
theorem is_poly_ok (d : PyData) (hz : ∀ ds, d = .tuple ds → ds.length ≤ 1000000) : mf_is_poly [d] = pure (.bool (isPoly d)) := by
  refine fn_rt ?_
  cases d with
  | tuple ds =>
    have hsz := sz_ok (hz ds rfl)
    have h1 : ∀ ρ : Ev, ρ = [.vl (.tuple ds), .no, .no, .no, .no, .no] → lcM ds (lcF ρ (gSet 1) mYes (mAndV (mIsi "tuple" (mName 1)) (mOp eqD (mCl lenD (mCons (mName 1) (mNil))) (mC (.int 2)))) [1]) = pure ((ds.map isPair).map PyData.bool) := by
      rintro ρ rfl
      refine lcM_bools fun d _ => ?_
      unfold lcF
      cases d with
      | tuple es => simp [mSeq, mIfS, mRet, mRetN, mPass, mOrT, mAndT, mNotT, mAsB, mIsi, mName, mOwn, mC, mOp, mOp3, mCl, mCons, mNil, mFrz, mFrzD, mSeqI, mCall, mAndV, mOrV, mNotV, mIfE, mTup, mLst, mSet, mSetF, mSetD, mPar, mUn, mUn', mCut, mP, mNoP, mIsN, mIsNot, mRng, mKeys, mYes, gSet, gTupD, gsCons, gsNil, mFz, mDrop, mAsg, mAppend, ev0, frzAt, wipeE, rdV_vl, rdB_vl, rdB_ol, rdB_od, asB_b, asI_i, seqD_l, seqD_t, lenI1, lenI2, lenI3, lft_some, pure_bind, getE0, getES, List.set_cons_zero, List.set_cons_succ, List.map_cons, List.map_nil, List.cons_append, List.nil_append, List.replicate_succ, List.replicate_zero, List.append_nil, List.length_cons, List.length_nil, if_true, if_false, ite_true, ite_false, Bool.false_eq_true, reduceIte, Bool.not_true, Bool.not_false, Nat.reduceAdd, Nat.reduceSub, List.zip_cons_cons, List.zip_nil_right, List.foldl_cons, List.foldl_nil, isTup_t, lenD_t, eqD_int, isPair_len]
      | _ => rfl
    unfold m_is_poly
    have h1' := h1 _ rfl
    rw [mSeq]
    cases ha : ds.all isPair with
    | false => simp [mSeq, mIfS, mRet, mRetN, mPass, mOrT, mAndT, mNotT, mAsB, mIsi, mName, mOwn, mC, mOp, mOp3, mCl, mCons, mNil, mFrz, mFrzD, mSeqI, mCall, mAndV, mOrV, mNotV, mIfE, mTup, mLst, mSet, mSetF, mSetD, mPar, mUn, mUn', mCut, mP, mNoP, mIsN, mIsNot, mRng, mKeys, mYes, gSet, gTupD, gsCons, gsNil, mFz, mDrop, mAsg, mAppend, ev0, frzAt, wipeE, rdV_vl, rdB_vl, rdB_ol, rdB_od, asB_b, asI_i, seqD_l, seqD_t, lenI1, lenI2, lenI3, lft_some, pure_bind, getE0, getES, List.set_cons_zero, List.set_cons_succ, List.map_cons, List.map_nil, List.cons_append, List.nil_append, List.replicate_succ, List.replicate_zero, List.append_nil, List.length_cons, List.length_nil, if_true, if_false, ite_true, ite_false, Bool.false_eq_true, reduceIte, Bool.not_true, Bool.not_false, Nat.reduceAdd, Nat.reduceSub, List.zip_cons_cons, List.zip_nil_right, List.foldl_cons, List.foldl_nil, isTup_t, mLc, hsz, h1', allD_mapc, ha, isPoly_np ha]
    | true =>
      obtain ⟨L, rfl⟩ := pairs_ex ha
      have h2 : ∀ ρ : Ev, ρ = [.vl (.tuple (L.map pr)), .no, .no, .no, .no, .no] → lcM (L.map pr) (lcF ρ (gTupD 2 (gsCons (gSet 2) (gsCons (gSet 3) (gsNil)))) (mYes) (mAndV (mCall 1 mf_is_integer (mCons (mName 2) (mNil))) (mAndV (mCall 1 mf_is_fraction (mCons (mName 3) (mNil))) (mOp neD (mName 3) (mC c_ZERO)))) [2, 3]) = pure ((L.map fun e => okE e.1 e.2).map PyData.bool) := by
        rintro ρ rfl
        refine (lcM_bools (g := fun d => match d with | .tuple [i, c] => okE i c | _ => true) fun d hd => ?_).trans ?_
        · obtain ⟨⟨i, c⟩, _, rfl⟩ := List.mem_map.mp hd
          unfold lcF
          simp [mSeq, mIfS, mRet, mRetN, mPass, mOrT, mAndT, mNotT, mAsB, mIsi, mName, mOwn, mC, mOp, mOp3, mCl, mCons, mNil, mFrz, mFrzD, mSeqI, mCall, mAndV, mOrV, mNotV, mIfE, mTup, mLst, mSet, mSetF, mSetD, mPar, mUn, mUn', mCut, mP, mNoP, mIsN, mIsNot, mRng, mKeys, mYes, gSet, gTupD, gsCons, gsNil, mFz, mDrop, mAsg, mAppend, ev0, frzAt, wipeE, rdV_vl, rdB_vl, rdB_ol, rdB_od, asB_b, asI_i, seqD_l, seqD_t, lenI1, lenI2, lenI3, lft_some, pure_bind, getE0, getES, List.set_cons_zero, List.set_cons_succ, List.map_cons, List.map_nil, List.cons_append, List.nil_append, List.replicate_succ, List.replicate_zero, List.append_nil, List.length_cons, List.length_nil, if_true, if_false, ite_true, ite_false, Bool.false_eq_true, reduceIte, Bool.not_true, Bool.not_false, Nat.reduceAdd, Nat.reduceSub, List.zip_cons_cons, List.zip_nil_right, List.foldl_cons, List.foldl_nil, is_integer_ok, is_fraction_ok, okE]
          cases hi : isInt i with
          | false => simp
          | true =>
            cases hc : isFrac c with
            | false => simp [asB_b, lft_some]
            | true =>
              obtain ⟨p, q, rfl⟩ := frac_ex hc
              have hn : neD (.tuple [.int p, .int q]) c_ZERO = some (.bool (nz (.tuple [.int p, .int q]))) := neD_tup2 p q 0 1
              simp [asB_b, lft_some, hn]
        · rw [List.map_map, List.map_map, List.map_map]; rfl
      have h2' := h2 _ rfl
      have hsz2 : sz (L.map pr) = some (L.map pr) := hsz
      have hcut : cutD (.tuple (L.map pr)) (some 1) none = some (.tuple ((L.map pr).drop 1)) := by
        show some (PyData.tuple (cutP _ _ _)) = _
        rw [cutP_from1]
      have hall : ((L.map pr).map isPair).all id = true := by rw [List.all_map]; exact ha
      have hz3 : zipD [.tuple (L.map pr), .tuple ((L.map pr).drop 1)] = some (List.zipWith (fun x y => .tuple [x, y]) (L.map pr) ((L.map pr).drop 1)) := rfl
      have hsz3 : sz (List.zipWith (fun x y => PyData.tuple [x, y]) (L.map pr) ((L.map pr).drop 1)) = some (List.zipWith (fun x y => PyData.tuple [x, y]) (L.map pr) ((L.map pr).drop 1)) := sz_ok (by
        have := hz _ rfl
        rw [List.length_zipWith]; omega)
      cases hb : (L.map fun e => okE e.1 e.2).all id with
      | false => simp [-List.map_map, -List.all_map, -List.drop_one, -List.map_zipWith, mSeq, mIfS, mRet, mRetN, mPass, mOrT, mAndT, mNotT, mAsB, mIsi, mName, mOwn, mC, mOp, mOp3, mCl, mCons, mNil, mFrz, mFrzD, mSeqI, mCall, mAndV, mOrV, mNotV, mIfE, mTup, mLst, mSet, mSetF, mSetD, mPar, mUn, mUn', mCut, mP, mNoP, mIsN, mIsNot, mRng, mKeys, mYes, gSet, gTupD, gsCons, gsNil, mFz, mDrop, mAsg, mAppend, ev0, frzAt, wipeE, rdV_vl, rdB_vl, rdB_ol, rdB_od, asB_b, asI_i, seqD_l, seqD_t, lenI1, lenI2, lenI3, lft_some, pure_bind, getE0, getES, List.set_cons_zero, List.set_cons_succ, List.map_cons, List.map_nil, List.cons_append, List.nil_append, List.replicate_succ, List.replicate_zero, List.append_nil, List.length_cons, List.length_nil, if_true, if_false, ite_true, ite_false, Bool.false_eq_true, reduceIte, Bool.not_true, Bool.not_false, Nat.reduceAdd, Nat.reduceSub, List.zip_cons_cons, List.zip_nil_right, List.foldl_cons, List.foldl_nil, isTup_t, mLc, hsz2, h1', allD_map, hall, h2', hcut, hb, isPoly_pr]
      | true =>
        have h3 : ∀ ρ : Ev, ρ = [.vl (.tuple (L.map pr)), .no, .no, .no, .no, .no] → lcM (List.zipWith (fun x y => PyData.tuple [x, y]) (L.map pr) ((L.map pr).drop 1)) (lcF ρ (gTupD 2 (gsCons (gSet 4) (gsCons (gSet 5) (gsNil)))) (mYes) (mOp ltD (mOp ixD (mName 4) (mC (.int 0))) (mOp ixD (mName 5) (mC (.int 0)))) [4, 5]) = pure ((List.zipWith (fun a b => decide (a < b)) (L.map keyI) ((L.map keyI).drop 1)).map PyData.bool) := by
          rintro ρ rfl
          rw [zw2, zw2]
          refine (lcM_bools (g := fun d => match d with | .tuple [.tuple [.int i, _], .tuple [.int j, _]] => decide (i < j) | _ => true) fun d hd => ?_).trans ?_
          · obtain ⟨⟨⟨i, c⟩, ⟨j, e⟩⟩, hm, rfl⟩ := List.mem_map.mp hd
            obtain ⟨m1, m2⟩ := mem_zip1 hm
            have k : ∀ x ∈ L, isInt x.1 = true := fun x hx => by
              have z := List.all_eq_true.mp hb _ (List.mem_map.mpr ⟨x, hx, rfl⟩)
              unfold okE at z
              simp at z
              exact z.1.1
            obtain ⟨a, ea⟩ := int_ex (k _ m1)
            obtain ⟨b, eb⟩ := int_ex (k _ m2)
            cases (show i = .int a from ea)
            cases (show j = .int b from eb)
            have x0 : ixD (.tuple [.int a, c]) (.int 0) = some (.int a) := rfl
            have y0 : ixD (.tuple [.int b, e]) (.int 0) = some (.int b) := rfl
            have lt : ltD (.int a) (.int b) = some (.bool (decide (a < b))) := rfl
            unfold lcF
            simp [mSeq, mIfS, mRet, mRetN, mPass, mOrT, mAndT, mNotT, mAsB, mIsi, mName, mOwn, mC, mOp, mOp3, mCl, mCons, mNil, mFrz, mFrzD, mSeqI, mCall, mAndV, mOrV, mNotV, mIfE, mTup, mLst, mSet, mSetF, mSetD, mPar, mUn, mUn', mCut, mP, mNoP, mIsN, mIsNot, mRng, mKeys, mYes, gSet, gTupD, gsCons, gsNil, mFz, mDrop, mAsg, mAppend, ev0, frzAt, wipeE, rdV_vl, rdB_vl, rdB_ol, rdB_od, asB_b, asI_i, seqD_l, seqD_t, lenI1, lenI2, lenI3, lft_some, pure_bind, getE0, getES, List.set_cons_zero, List.set_cons_succ, List.map_cons, List.map_nil, List.cons_append, List.nil_append, List.replicate_succ, List.replicate_zero, List.append_nil, List.length_cons, List.length_nil, if_true, if_false, ite_true, ite_false, Bool.false_eq_true, reduceIte, Bool.not_true, Bool.not_false, Nat.reduceAdd, Nat.reduceSub, List.zip_cons_cons, List.zip_nil_right, List.foldl_cons, List.foldl_nil, x0, y0, lt]
          · refine congrArg (fun z => (pure (List.map PyData.bool z) : M (List PyData))) ?_
            rw [List.map_map]
            refine List.map_congr_left fun p hp => ?_
            obtain ⟨m1, m2⟩ := mem_zip1 hp
            have k : ∀ x ∈ L, isInt x.1 = true := fun x hx => by
              have z := List.all_eq_true.mp hb _ (List.mem_map.mpr ⟨x, hx, rfl⟩)
              unfold okE at z
              simp at z
              exact z.1.1
            obtain ⟨⟨i, c⟩, ⟨j, e⟩⟩ := p
            obtain ⟨a, ea⟩ := int_ex (k _ m1)
            obtain ⟨b, eb⟩ := int_ex (k _ m2)
            cases (show i = .int a from ea)
            cases (show j = .int b from eb)
            rfl
        have h3' := h3 _ rfl
        simp [-List.map_map, -List.all_map, -List.drop_one, -List.map_zipWith, mSeq, mIfS, mRet, mRetN, mPass, mOrT, mAndT, mNotT, mAsB, mIsi, mName, mOwn, mC, mOp, mOp3, mCl, mCons, mNil, mFrz, mFrzD, mSeqI, mCall, mAndV, mOrV, mNotV, mIfE, mTup, mLst, mSet, mSetF, mSetD, mPar, mUn, mUn', mCut, mP, mNoP, mIsN, mIsNot, mRng, mKeys, mYes, gSet, gTupD, gsCons, gsNil, mFz, mDrop, mAsg, mAppend, ev0, frzAt, wipeE, rdV_vl, rdB_vl, rdB_ol, rdB_od, asB_b, asI_i, seqD_l, seqD_t, lenI1, lenI2, lenI3, lft_some, pure_bind, getE0, getES, List.set_cons_zero, List.set_cons_succ, List.map_cons, List.map_nil, List.cons_append, List.nil_append, List.replicate_succ, List.replicate_zero, List.append_nil, List.length_cons, List.length_nil, if_true, if_false, ite_true, ite_false, Bool.false_eq_true, reduceIte, Bool.not_true, Bool.not_false, Nat.reduceAdd, Nat.reduceSub, List.zip_cons_cons, List.zip_nil_right, List.foldl_cons, List.foldl_nil, isTup_t, mLc, hsz2, h1', allD_map, hall, h2', hcut, hb, isPoly_pr, hz3, hsz3, h3']
        rfl
  | _ => rfl

theorem rise_iff {ks : List Int} : rise ks = true ↔ ∀ k a b, ks[k]? = some a → ks[k + 1]? = some b → a < b := by
  unfold rise
  rw [List.all_eq_true]
  constructor
  · intro h k a b h1 h2
    have : (List.zipWith (fun a b => decide (a < b)) ks (ks.drop 1))[k]? = some (decide (a < b)) := by
      rw [List.getElem?_zipWith, h1, List.getElem?_drop, Nat.add_comm 1 k, h2]
    exact of_decide_eq_true (h _ (List.mem_of_getElem? this))
  · intro h x hx
    obtain ⟨k, hk⟩ := List.mem_iff_getElem?.mp hx
    rw [List.getElem?_zipWith, List.getElem?_drop, Nat.add_comm 1 k] at hk
    cases h1 : ks[k]? with
    | none => rw [h1] at hk; simp at hk
    | some a =>
      cases h2 : ks[k + 1]? with
      | none => rw [h1, h2] at hk; simp at hk
      | some b => rw [h1, h2] at hk; simp at hk; rw [← hk]; simpa using h k a b h1 h2
end K30
end

section
set_option Elab.async false
set_option linter.all false
set_option maxRecDepth 100000
set_option maxHeartbeats 4000000
namespace K30
open PySem PySem.Spec PyProof.Rows L2 DL
abbrev pk (e : Int × PyData) : PyData := .tuple [.int e.1, e.2]
theorem rise_cons (a b : Int) (r : List Int) : rise (a :: b :: r) = (decide (a < b) && rise (b :: r)) := rfl
theorem rise_pw : ∀ {ks : List Int}, rise ks = true → ks.Pairwise (· < ·)
  | [], _ => .nil
  | [_], _ => by simp
  | a :: b :: r, h => by
    rw [rise_cons, Bool.and_eq_true] at h
    have ih := rise_pw h.2
    have hab := of_decide_eq_true h.1
    refine List.pairwise_cons.mpr ⟨fun x hx => ?_, ih⟩
    rcases List.mem_cons.mp hx with rfl | hx
    · exact hab
    · have := (List.pairwise_cons.mp ih).1 x hx
      omega
theorem rise_nodup {ks : List Int} (h : rise ks = true) : ks.Nodup := (rise_pw h).imp fun h => by omega
theorem poly_ex {d : PyData} (h : isPoly d = true) : ∃ V : List (Int × PyData), d = .tuple (V.map pk) ∧ (∀ e ∈ V, isFrac e.2 = true) ∧ (V.map (·.1)).Nodup := by
  cases d with
  | tuple ds =>
    have ha : ds.all isPair = true := by
      cases ha : ds.all isPair with
      | true => rfl
      | false => rw [isPoly_np ha] at h; cases h
    obtain ⟨L, rfl⟩ := pairs_ex ha
    rw [isPoly_pr, Bool.and_eq_true] at h
    have k : ∀ x ∈ L, isInt x.1 = true ∧ isFrac x.2 = true := fun x hx => by
      have z := List.all_eq_true.mp h.1 _ (List.mem_map.mpr ⟨x, hx, rfl⟩)
      unfold okE at z
      simp at z
      exact z.1
    refine ⟨L.map fun e => (keyI e, e.2), ?_, ?_, ?_⟩
    · rw [List.map_map]
      congr 1
      refine List.map_congr_left fun e he => ?_
      obtain ⟨i, c⟩ := e
      obtain ⟨a, ea⟩ := int_ex (k _ he).1
      cases (show i = .int a from ea)
      rfl
    · intro e he
      obtain ⟨x, hx, rfl⟩ := List.mem_map.mp he
      exact (k x hx).2
    · rw [List.map_map]
      exact rise_nodup h.2
  | _ => cases h
def gv (D : List (Int × PyData)) (i : Int) : PyData := (dlook (dd D) (.inl i)).getD c_ZERO
theorem gv_ex {D : List (Int × PyData)} (h : ∀ e ∈ D, isFrac e.2 = true) (i : Int) : ∃ p q, gv D i = .tuple [.int p, .int q] ∧ (gv D i = c_ZERO ∨ ∃ e ∈ D, gv D i = e.2) := by
  unfold gv
  cases hl : dlook (dd D) (.inl i) with
  | none => exact ⟨0, 1, rfl, .inl rfl⟩
  | some v =>
    obtain ⟨e, he, rfl⟩ := dlook_mem hl
    obtain ⟨p, q, hp⟩ := frac_ex (h e he)
    exact ⟨p, q, hp, .inr ⟨e, he, rfl⟩⟩
def dif (D V : List (Int × PyData)) (i : Int) : Bool := match gv V i, gv D i with
  | .tuple [.int a, .int b], .tuple [.int c, .int d] => !(decide (a = c) && decide (b = d))
  | _, _ => false
theorem dif_ok {D V : List (Int × PyData)} (hD : ∀ e ∈ D, isFrac e.2 = true) (hV : ∀ e ∈ V, isFrac e.2 = true) (i : Int) : neD (gv V i) (gv D i) = some (.bool (dif D V i)) := by
  obtain ⟨a, b, e1, _⟩ := gv_ex hV i
  obtain ⟨c, d, e2, _⟩ := gv_ex hD i
  unfold dif
  rw [e1, e2, neD_tup2]
def resD (D : List (Int × PyData)) : List Int → PyData
  | [] => .none
  | i :: _ => .tuple [.str "power", .int i, gv D i]
theorem get_ok (D : List (Int × PyData)) (i : Int) : dget2D (.dict (dd D)) (.int i) c_ZERO = some (gv D i) := rfl
theorem dictL_t {V : List (Int × PyData)} (h : (V.map (·.1)).Nodup) : dictL [.tuple (V.map pk)] = some (dd V) := by
  show (prsOf (V.map pk)).map (fun ps => dmerge [] ps) = _
  rw [prsOf_pk]
  exact congrArg some (dmerge_fresh V [] h)
theorem dictL_l {V : List (Int × PyData)} (h : (V.map (·.1)).Nodup) : dictL [.list (V.map pk)] = some (dd V) := by
  show (prsOf (V.map pk)).map (fun ps => dmerge [] ps) = _
  rw [prsOf_pk]
  exact congrArg some (dmerge_fresh V [] h)
theorem mrg_ok {V D X : List (Int × PyData)} (hV : (V.map (·.1)).Nodup) (hl : V.length + D.length ≤ 1000000) (hX : dmerge (dd V) (dks D) = dd X) : mrgD (.dict (dd V)) (.dict (dd D)) = some (dd X) := by
  show (if (dd V).length + (dd D).length ≤ 1000000 then some (dmerge (dmerge [] (kvOf (dd V))) (kvOf (dd D))) else none) = _
  rw [if_pos (by rw [List.length_map, List.length_map]; exact hl), kvOf_dd, kvOf_dd, show dmerge [] (dks V) = dd V from dmerge_fresh V [] hV, hX]
theorem dictL_app {V D X : List (Int × PyData)} (hV : (V.map (·.1)).Nodup) (hX : dmerge (dd V) (dks D) = dd X) : dictL [.list (V.map pk ++ D.map pk)] = some (dd X) := by
  show (prsOf (V.map pk ++ D.map pk)).map (fun ps => dmerge [] ps) = _
  rw [← List.map_append, prsOf_pk]
  show some (dmerge [] (dks (V ++ D))) = _
  have e : dmerge [] (dks (V ++ D)) = dmerge (dmerge [] (dks V)) (dks D) := by
    unfold dmerge
    rw [← List.foldl_append, ← List.map_append]
  rw [e, show dmerge [] (dks V) = dd V from dmerge_fresh V [] hV, hX]
end K30
end

section
set_option Elab.async false
set_option linter.all false
set_option maxRecDepth 100000
set_option maxHeartbeats 4000000
namespace K30
open PySem PySem.Spec PyProof.Rows L2 DL
theorem lcM_ints {f : PyData → M (Option PyData)} {c : Int → Bool} {ks : List Int} (h : ∀ i ∈ ks, f (.int i) = pure (if c i = true then some (.int i) else none)) : lcM (ks.map PyData.int) f = pure ((ks.filter c).map PyData.int) := by
  rw [lcM_filter (c := fun d => match d with | .int i => c i | _ => false) (h := id) fun d hd => ?_]
  · rw [List.map_id, List.filter_map]; rfl
  · obtain ⟨i, hi, rfl⟩ := List.mem_map.mp hd
    exact h i hi
theorem keysL_dd (X : List (Int × PyData)) : keysL (.dict (dd X)) = some ((X.map (·.1)).map PyData.int) := by
  show some ((dd X).map (·.1)) = _
  rw [List.map_map, List.map_map]; rfl
theorem sortedIL_ok (ws : List Int) : sortedIL [.list (ws.map PyData.int)] = some ((sortI ws).map PyData.int) := by
  show (intsOf (ws.map PyData.int)).map _ = _
  rw [intsOf_ints]; rfl
theorem sortedDL_ok {X : List (Int × PyData)} (h : X.length < 64) : sortedDL [.dict (dd X)] = some ((sortI (X.map (·.1))).map PyData.int) := by
  show (if (dd X).length < 64 then (keysI (dd X)).map fun ns => (sortI ns).map PyData.int else none) = _
  rw [if_pos (by rw [List.length_map]; exact h)]
  have e : keysI (dd X) = some (X.map (·.1)) := by
    unfold keysI
    rw [show (dd X).map (·.1) = (X.map (·.1)).map PyData.int by rw [List.map_map, List.map_map]; rfl, intsOf_ints]
  rw [e]; rfl
theorem sz0 : sz ([] : List PyData) = some [] := rfl
end K30
end

section
set_option Elab.async false
set_option linter.all false
set_option maxRecDepth 100000
set_option maxHeartbeats 4000000
namespace K30
open PySem PySem.Spec PyProof.Rows L2 DL
theorem fdivD_ok {i j : Int} (h : 0 < j ∧ j.natAbs.log2 < 9000) : fdivD (.int i) (.int j) = some (.int (i / j)) := if_pos h
theorem pick_ok {m : Int} (h1 : 1 ≤ m) (h2 : m ≤ 1000000) : Tri (mf_law_pick [.int m]) fun d => ∃ r : Int, d = .int r ∧ 0 ≤ r ∧ r < m := by
  refine t_fn ?_
  show Tri (m_law_pick [.src, .vl (.int m), .no, .no, .no, .no]) _
  unfold m_law_pick
  refine t_seqX (I := fun ρ => ρ = [.src, .vl (.int m), .no, .no, .no, .no]) ?_ ?_
  · refine t_if (B := fun b => b = decide (m < 2)) (t_asB (t_op (t_name rfl rfl) (t_c rfl) fun x y hx hy => ?_)) (fun h => t_ret (t_c (.inr ⟨_, rfl, _, rfl, 0, rfl, by omega, by omega⟩))) fun h => t_pass (.inl ⟨_, rfl, rfl⟩)
    subst hx hy
    exact ⟨_, rfl, _, rfl, rfl⟩
  · rintro ρ rfl
    refine t_seq (I := fun ρ => ρ = [.src, .vl (.int m), .scl, .no, .no, .no]) (Tri.pure ⟨_, rfl, rfl⟩) ?_
    rintro ρ rfl
    refine t_seq (I := fun ρ => ρ = [.src, .vl (.int m), .scl, .no, .no, .no]) (fun st ok => ?_) ?_
    · obtain ⟨st', e, ok'⟩ := drain_ok (ρ := [.src, .vl (.int m), .scl, .no, .no, .no]) rfl rfl 66 st ok (by have := ok.len; omega)
      exact ⟨_, st', e, ok', _, rfl, rfl⟩
    rintro ρ rfl
    refine t_seq (I := fun ρ => ∃ z : Int, 0 ≤ z ∧ ρ = [.src, .vl (.int m), .scl, .vl (.int z), .no, .no]) (t_set (t_getL rfl fun z hz => ⟨_, rfl, z, hz, rfl⟩)) ?_
    rintro ρ ⟨z, hz, rfl⟩
    refine t_seqX (I := fun ρ => ρ = [.src, .vl (.int m), .scl, .vl (.int z), .no, .no]) ?_ ?_
    · refine t_if (B := fun b => b = decide (1 < z)) (t_asB (t_op (t_name rfl rfl) (t_c rfl) fun x y hx hy => ?_)) (fun h => ?_) fun h => t_pass (.inl ⟨_, rfl, rfl⟩)
      · subst hx hy
        exact ⟨_, rfl, _, rfl, rfl⟩
      · refine t_seq (I := fun ρ => ρ = [.src, .vl (.int m), .scl, .vl (.int z), .no, .no]) (t_putL rfl (t_op (t_name rfl rfl) (t_name rfl rfl) fun x y hx hy => ?_) ⟨_, rfl, rfl⟩) ?_
        · subst hx hy
          refine ⟨_, if_pos ⟨by omega, ?_⟩, _, rfl, Int.ediv_nonneg hz (by omega)⟩
          exact log2_small (Nat.lt_of_le_of_lt (show m.natAbs ≤ 1000000 by omega) (by decide +kernel))
        · rintro ρ rfl
          refine t_ret (t_op (P := fun d => d = .int z) (Q := fun d => d = .int m) (t_cl (P := fun ds => ds = [.int z]) (t_cons (t_name rfl (t_nil rfl))) fun x hx => ?_) (t_name rfl rfl) fun x y hx hy => ?_)
          · subst hx; exact ⟨_, rfl, rfl⟩
          · subst hx hy
            exact ⟨_, if_pos (by omega), .inr ⟨_, rfl, _, rfl, _, rfl, Int.emod_nonneg _ (by omega), Int.emod_lt_of_pos _ (by omega)⟩⟩
    rintro ρ rfl
    refine t_seq (I := fun ρ => ρ = [.src, .vl (.int m), .scl, .vl (.int z), .no, .no]) (t_putT rfl (t_op (P := fun d => ∃ z : Int, d = .int z) (t_getX rfl (.inr rfl) fun z => ⟨z, rfl⟩) (t_c rfl) fun x y hx hy => ?_) ⟨_, rfl, rfl⟩) ?_
    · obtain ⟨a, rfl⟩ := hx
      subst hy
      exact ⟨_, rfl, _, rfl⟩
    rintro ρ rfl
    refine t_seq (I := fun ρ => ∃ t : Int, ρ = [.src, .vl (.int m), .scl, .vl (.int z), .vl (.int t), .no]) (t_set (t_getX rfl (.inr rfl) fun t => ⟨_, rfl, t, rfl⟩)) ?_
    rintro ρ ⟨t, rfl⟩
    have modp : ∀ (a b : Int), 0 < b → ∃ z, modD (.int a) (.int b) = some z ∧ ∃ r : Int, z = .int r ∧ 0 ≤ r ∧ r < b := fun a b hb => ⟨_, if_pos hb, _, rfl, Int.emod_nonneg _ (by omega), Int.emod_lt_of_pos _ hb⟩
    refine t_seq (I := fun ρ => ∃ x : Int, 0 ≤ x ∧ x < 998244353 ∧ ρ = [.src, .vl (.int m), .scl, .vl (.int z), .vl (.int t), .vl (.int x)]) (t_set (t_op (P := fun d => ∃ z : Int, d = .int z) (Q := fun d => d = .int 998244353) (t_cl (P := fun ds => ∃ z : Int, ds = [.int z]) (t_cons (t_op (P := fun d => ∃ z : Int, d = .int z) (Q := fun d => ∃ z : Int, d = .int z) (t_getX rfl (.inl rfl) fun z => ⟨z, rfl⟩) (t_op (t_name rfl rfl) (t_c rfl) fun x y hx hy => ?_) fun x y hx hy => ?_)) fun x hx => ?_) (t_c rfl) fun x y hx hy => ?_)) ?_
    · subst hx hy
      exact ⟨_, mulD_ok (.inl (by decide)), _, rfl⟩
    · obtain ⟨a, rfl⟩ := hx
      obtain ⟨b, rfl⟩ := hy
      exact ⟨_, rfl, t_nil ⟨_, rfl⟩⟩
    · obtain ⟨a, rfl⟩ := hx
      exact ⟨_, rfl, a, rfl⟩
    · obtain ⟨a, rfl⟩ := hx
      subst hy
      obtain ⟨z1, e, r, rfl, h1, h2⟩ := modp a 998244353 (by decide)
      exact ⟨_, e, _, rfl, r, h1, h2, rfl⟩
    rintro ρ ⟨x, hx1, hx2, rfl⟩
    refine t_seq (I := fun ρ => ∃ x : Int, 0 ≤ x ∧ ρ = [.src, .vl (.int m), .scl, .vl (.int z), .vl (.int t), .vl (.int x)]) (t_set (t_op (P := fun d => ∃ z : Int, d = .int z) (Q := fun d => d = .int 2147483647) (t_cl (P := fun ds => ∃ z : Int, ds = [.int z]) (t_cons (t_op (P := fun d => ∃ z : Int, d = .int z) (Q := fun d => ∃ z : Int, d = .int z) (t_op (t_name rfl rfl) (t_name rfl rfl) fun x y hx hy => ?_) (t_op (t_name rfl rfl) (t_c rfl) fun x y hx hy => ?_) fun x y hx hy => ?_)) fun x hx => ?_) (t_c rfl) fun x y hx hy => ?_)) ?_
    · subst hx hy
      exact ⟨_, mulD_ok (.inl (by omega)), _, rfl⟩
    · subst hx hy
      exact ⟨_, mulD_ok (.inl (by decide)), _, rfl⟩
    · obtain ⟨a, rfl⟩ := hx
      obtain ⟨b, rfl⟩ := hy
      exact ⟨_, rfl, t_nil ⟨_, rfl⟩⟩
    · obtain ⟨a, rfl⟩ := hx
      exact ⟨_, rfl, a, rfl⟩
    · obtain ⟨a, rfl⟩ := hx
      subst hy
      obtain ⟨z1, e, r, rfl, h1, h2⟩ := modp a 2147483647 (by decide)
      exact ⟨_, e, _, rfl, r, h1, rfl⟩
    rintro ρ ⟨y, hy1, rfl⟩
    refine t_ret (t_op (P := fun d => ∃ z : Int, d = .int z) (Q := fun d => d = .int m) (t_cl (P := fun ds => ∃ z : Int, ds = [.int z]) (t_cons (t_op (t_name rfl rfl) (t_c rfl) fun x y hx hy => ?_)) fun x hx => ?_) (t_name rfl rfl) fun x y hx hy => ?_)
    · subst hx hy
      exact ⟨_, fdivD_ok ⟨by decide, by decide⟩, t_nil ⟨_, rfl⟩⟩
    · obtain ⟨a, rfl⟩ := hx
      exact ⟨_, rfl, a, rfl⟩
    · obtain ⟨a, rfl⟩ := hx
      subst hy
      obtain ⟨z1, e, r, rfl, h1, h2⟩ := modp a m (by omega)
      exact ⟨_, e, _, rfl, r, rfl, h1, h2⟩
theorem of_ok {ds : List PyData} (h0 : ds ≠ []) (h1 : ds.length ≤ 1000000) : Tri (mf_law_of [.list ds]) fun d => d ∈ ds := by
  refine t_fn ?_
  show Tri (m_law_of [.src, .vl (.list ds)]) _
  unfold m_law_of
  have hp : 0 < ds.length := List.length_pos_iff.mpr h0
  refine t_ret (t_op (P := fun d => d = .list ds) (Q := fun d => ∃ r : Int, d = .int r ∧ 0 ≤ r ∧ r < ds.length) (t_name rfl rfl) (t_callS rfl (t_cons (t_cl (P := fun x => x = [.list ds]) (t_cons (t_name rfl (t_nil rfl))) fun x hx => ?_))) fun x y hx hy => ?_)
  · subst hx
    exact ⟨_, rfl, t_nil ⟨rfl, pick_ok (by omega) (by omega)⟩⟩
  · subst hx
    obtain ⟨r, rfl, h2, h3⟩ := hy
    obtain ⟨k, rfl⟩ := Int.eq_ofNat_of_zero_le h2
    have hk : k < ds.length := by omega
    have e : ds[k]? = some ds[k] := List.getElem?_eq_getElem hk
    exact ⟨_, L2.atI_nat e, _, rfl, List.getElem_mem hk⟩
end K30
end

section
set_option Elab.async false
set_option linter.all false
set_option maxRecDepth 100000
set_option maxHeartbeats 4000000
namespace K30
open PySem PySem.Spec PyProof.Rows L2 DL
theorem powD_ok {i j : Int} (h : 0 ≤ j ∧ j ≤ 1000000 ∧ i.natAbs < 2 ^ 64) : powD (.int i) (.int j) = some (.int (i ^ j.toNat)) := if_pos h
theorem pow12 : powD (.int 10) (.int 12) = some (.int 1000000000000) := by rw [powD_ok ⟨by decide, by decide, by decide⟩]; rfl
theorem pow20 : powD (.int 10) (.int 20) = some (.int 100000000000000000000) := by rw [powD_ok ⟨by decide, by decide, by decide⟩]; rfl
theorem pow30 : powD (.int 10) (.int 30) = some (.int 1000000000000000000000000000000) := by rw [powD_ok ⟨by decide, by decide, by decide⟩]; rfl
structure FrOk (d : PyData) : Prop where
  fr : isFrac d = true
  nz : nz d = true
  w : d.weight ≤ 50
  dp : d.depth ≤ 1
  tx : txt d = true
  pl : d.plain = true
  qw : ∀ a b : Int, d = .tuple [.int a, .int b] → (PyData.int b).weight ≤ 4
def frB (p q : Int) : Bool := isFrac (fracD p q) && nz (fracD p q) && decide ((fracD p q).weight ≤ 50) && decide ((fracD p q).depth ≤ 1) && txt (fracD p q) && (fracD p q).plain && decide ((PyData.int (q / (Nat.gcd p.natAbs q.natAbs : Nat))).weight ≤ 4)
theorem frB_ok {p q : Int} (h : frB p q = true) : FrOk (fracD p q) := by
  unfold frB at h
  simp only [Bool.and_eq_true, decide_eq_true_eq] at h
  exact ⟨h.1.1.1.1.1.1, h.1.1.1.1.1.2, h.1.1.1.1.2, h.1.1.1.2, h.1.1.2, h.1.2, fun a b e => by
    unfold fracD at e
    cases e
    exact h.2⟩
def ps : List Int := [1, -1, 2, 5, -7, 1000000000000]
def qs : List Int := [1, 1, 2, 3, 12]
theorem all_frB : ∀ p ∈ ps, ∀ q ∈ qs, frB p q = true := by decide +kernel
theorem drawn_ok : Tri (mf_law_drawn_fraction []) FrOk := by
  refine t_fn ?_
  show Tri (m_law_drawn_fraction [.src]) _
  unfold m_law_drawn_fraction
  refine t_ret (t_call (t_cons ?_))
  refine (t_callS (Q := fun d => d ∈ ps.map PyData.int) rfl (t_cons (t_frz (t_lst ?_)))).mono ?_
  · refine t_cons (t_c (t_cons (t_un (P := fun d => d = .int 1) (t_c rfl) fun x hx => ?_)))
    subst hx
    refine ⟨.int (-1), rfl, t_cons (t_c (t_cons (t_c (t_cons (t_un (P := fun d => d = .int 7) (t_c rfl) fun x hx => ?_)))))⟩
    subst hx
    refine ⟨.int (-7), rfl, t_cons (t_op (P := fun d => d = .int 10) (Q := fun d => d = .int 12) (t_c rfl) (t_c rfl) fun x y hx hy => ?_)⟩
    subst hx hy
    refine ⟨.int 1000000000000, pow12, t_nil ⟨by decide, t_nil ⟨rfl, ?_⟩⟩⟩
    exact of_ok (by simp) (by decide)
  · intro d hd
    obtain ⟨p, hp, rfl⟩ := List.mem_map.mp hd
    refine t_cons ((t_callS (Q := fun d => d ∈ qs.map PyData.int) rfl (t_cons (t_frz (t_lst (t_cons (t_c (t_cons (t_c (t_cons (t_c (t_cons (t_c (t_cons (t_c (t_nil ⟨by decide, t_nil ⟨rfl, of_ok (by simp) (by decide)⟩⟩))))))))))))))).mono ?_)
    intro e he
    obtain ⟨q, hq, rfl⟩ := List.mem_map.mp he
    refine t_nil ⟨rfl, ?_⟩
    have h0 : 0 < q ∧ q.natAbs < 2 ^ 900 := by
      have : ∀ q ∈ qs, 0 < q ∧ q.natAbs < 2 ^ 900 := by decide +kernel
      exact this q hq
    exact Tri.eq (law_fraction_ok h0.1 h0.2) ⟨_, rfl, frB_ok (all_frB p hp q hq)⟩
end K30
end

section
set_option Elab.async false
set_option linter.all false
set_option maxRecDepth 100000
set_option maxHeartbeats 4000000
namespace K30
open PySem PySem.Spec PyProof.Rows L2 DL
theorem nodup_len : ∀ (xs r : List Int), xs.Nodup → (∀ x ∈ xs, x ∈ r) → xs.length ≤ r.length
  | [], _, _, _ => Nat.zero_le _
  | x :: xs, r, h, hs => by
    have hx : x ∈ r := hs x List.mem_cons_self
    have ih := nodup_len xs (r.erase x) (List.nodup_cons.mp h).2 fun y hy => (List.mem_erase_of_ne (fun z => (List.nodup_cons.mp h).1 (by rw [← z]; exact hy))).mpr (hs y (List.mem_cons_of_mem _ hy))
    rw [List.length_erase_of_mem hx] at ih
    have := List.length_pos_of_mem hx
    rw [List.length_cons]
    omega
structure KOk (K : List (Int × PyData)) : Prop where
  fr : ∀ e ∈ K, FrOk e.2
  rg : ∀ e ∈ K, -3 ≤ e.1 ∧ e.1 ≤ 5
  nd : (K.map (·.1)).Nodup
theorem KOk.len {K : List (Int × PyData)} (h : KOk K) : K.length ≤ 9 := by
  have := nodup_len (K.map (·.1)) [-3, -2, -1, 0, 1, 2, 3, 4, 5] h.nd fun x hx => by
    obtain ⟨e, he, rfl⟩ := List.mem_map.mp hx
    have := h.rg e he
    simp only [List.mem_cons, List.not_mem_nil, or_false]
    omega
  simpa using this
theorem KOk.put {K : List (Int × PyData)} (h : KOk K) {i : Int} {v : PyData} (hi : -3 ≤ i ∧ i ≤ 5) (hv : FrOk v) : ∃ K', dput (dd K) (.inl i) v = dd K' ∧ KOk K' := by
  rw [dput_dd]
  refine ⟨_, rfl, ?_⟩
  by_cases ha : (K.any fun e => decide (e.1 = i)) = true
  · rw [if_pos ha]
    refine ⟨fun e he => ?_, fun e he => ?_, ?_⟩
    · obtain ⟨x, hx, rfl⟩ := List.mem_map.mp he
      by_cases z : x.1 = i
      · rw [if_pos z]; exact hv
      · rw [if_neg z]; exact h.fr x hx
    · obtain ⟨x, hx, rfl⟩ := List.mem_map.mp he
      by_cases z : x.1 = i
      · rw [if_pos z]; exact h.rg x hx
      · rw [if_neg z]; exact h.rg x hx
    · rw [List.map_map]
      have e : (K.map ((·.1) ∘ fun e => if e.1 = i then (e.1, v) else e)) = K.map (·.1) := List.map_congr_left fun x _ => by
        show (if x.1 = i then (x.1, v) else x).1 = x.1
        split <;> rfl
      rw [e]; exact h.nd
  · rw [if_neg ha]
    refine ⟨fun e he => ?_, fun e he => ?_, ?_⟩
    · rcases List.mem_append.mp he with he | he
      · exact h.fr e he
      · rw [List.mem_singleton.mp he]; exact hv
    · rcases List.mem_append.mp he with he | he
      · exact h.rg e he
      · rw [List.mem_singleton.mp he]; exact hi
    · rw [List.map_append, List.nodup_append]
      refine ⟨h.nd, by simp, fun a ha' b hb e => ha ?_⟩
      simp at hb
      subst hb
      subst e
      obtain ⟨x, hx, e⟩ := List.mem_map.mp ha'
      exact List.any_eq_true.mpr ⟨x, hx, decide_eq_true e⟩
structure POk (D : List (Int × PyData)) : Prop where
  fr : ∀ e ∈ D, FrOk e.2
  rg : ∀ e ∈ D, -3 ≤ e.1 ∧ e.1 ≤ 5
  pw : (D.map (·.1)).Pairwise (· < ·)
  len : D.length ≤ 9
theorem dlook_some {K : List (Int × PyData)} {i : Int} (h : i ∈ K.map (·.1)) : ∃ v, dlook (dd K) (.inl i) = some v := by
  obtain ⟨e, he, rfl⟩ := List.mem_map.mp h
  unfold dlook
  cases hf : (dd K).find? fun kv => decide (DL.keyOf kv.1 = some (.inl e.1)) with
  | some kv => exact ⟨_, rfl⟩
  | none =>
    have := List.find?_eq_none.mp hf (.int e.1, e.2) (List.mem_map.mpr ⟨e, he, rfl⟩)
    simp [keyOf_iff] at this
def vat (K : List (Int × PyData)) (i : Int) : PyData := (dlook (dd K) (.inl i)).getD .none
def srt (K : List (Int × PyData)) : List (Int × PyData) := (sortI (K.map (·.1))).map fun i => (i, vat K i)
theorem KOk.srt {K : List (Int × PyData)} (h : KOk K) : POk (srt K) := by
  have hm : ∀ e ∈ K30.srt K, e.1 ∈ K.map (·.1) ∧ ∃ x ∈ K, e.2 = x.2 := fun e he => by
    obtain ⟨i, hi, rfl⟩ := List.mem_map.mp he
    have hi' := (sortI_perm _).mem_iff.mp hi
    obtain ⟨v, hv⟩ := dlook_some hi'
    obtain ⟨x, hx, ex⟩ := dlook_mem hv
    refine ⟨hi', x, hx, ?_⟩
    show vat K i = x.2
    unfold vat
    rw [hv, ex]; rfl
  have hk : (K30.srt K).map (·.1) = sortI (K.map (·.1)) := by
    unfold K30.srt
    rw [List.map_map]
    exact List.map_id _
  refine ⟨fun e he => ?_, fun e he => ?_, ?_, ?_⟩
  · obtain ⟨_, x, hx, e2⟩ := hm e he
    rw [e2]; exact h.fr x hx
  · obtain ⟨x, hx, e2⟩ := List.mem_map.mp (hm e he).1
    rw [← e2]; exact h.rg x hx
  · rw [hk]
    have h1 := sortI_le (K.map (·.1))
    have h2 : (sortI (K.map (·.1))).Pairwise (· ≠ ·) := (sortI_perm _).nodup_iff.mpr h.nd
    exact (h1.and h2).imp fun h => by omega
  · unfold K30.srt
    rw [List.length_map, (sortI_perm _).length_eq, List.length_map]
    exact h.len
theorem poly_ok {many : Int} (h0 : 0 ≤ many) (h1 : many ≤ 100) : Tri (mf_law_poly [.int many]) fun d => ∃ D, d = .tuple (D.map pk) ∧ POk D := by
  refine t_fn ?_
  show Tri (m_law_poly [.src, .vl (.int many), .no, .no, .no]) _
  unfold m_law_poly
  refine t_seq (I := fun ρ => ρ = [.src, .vl (.int many), .od (dd []), .no, .no]) (t_setD (Tri.pure ⟨_, rfl, rfl⟩)) ?_
  rintro ρ rfl
  refine t_seq (I := fun ρ => ∃ K x y, ρ = [.src, .vl (.int many), .od (dd K), x, y] ∧ KOk K) (t_for (I := fun ρ => ∃ K x y, ρ = [.src, .vl (.int many), .od (dd K), x, y] ∧ KOk K) (P := fun _ => True) (t_rng (P := fun ds => ∃ r : Int, ds = [.int r] ∧ 0 ≤ r ∧ r ≤ 100) (t_cons ((t_callS (Q := fun d => ∃ r : Int, d = .int r ∧ 0 ≤ r ∧ r < many + 1) rfl (t_cons (t_op (P := fun d => d = .int many) (Q := fun d => d = .int 1) (t_name rfl rfl) (t_c rfl) fun x y hx hy => ?_))).mono ?_)) fun x hx => ?_) ⟨[], _, _, rfl, ⟨(fun e he => nomatch he), (fun e he => nomatch he), List.Pairwise.nil⟩⟩ ?_ fun ρ' h => ⟨ρ', rfl, h⟩) ?_
  · subst hx hy
    exact ⟨_, rfl, t_nil ⟨rfl, pick_ok (by omega) (by omega)⟩⟩
  · rintro d ⟨r, rfl, h2, h3⟩
    exact t_nil ⟨r, rfl, h2, by omega⟩
  · obtain ⟨r, rfl, h2, h3⟩ := hx
    exact ⟨_, rng1D_ok (by omega) (by omega), trivial⟩
  · rintro ds _ d _ ρ ⟨K, x, y, rfl, hK⟩
    refine Tri.pure ?_
    show Tri (mDPut 2 _ _ [.src, .vl (.int many), .od (dd K), .vl d, y]) _
    refine Tri.bind (t_callS rfl (t_nil ⟨rfl, drawn_ok⟩)) fun v hv => Tri.bind (P := (· = dd K)) (Tri.lft (show odAt [.src, .vl (.int many), .od (dd K), .vl d, y] 2 = some (dd K) from rfl) rfl) ?_
    rintro _ rfl
    refine Tri.bind (P := fun kd => ∃ i : Int, kd = .int i ∧ -3 ≤ i ∧ i ≤ 5) (t_op (P := fun d => ∃ r : Int, d = .int r ∧ 0 ≤ r ∧ r < 9) (Q := fun d => d = .int 3) (t_callS rfl (t_cons (t_c (t_nil ⟨rfl, pick_ok (by decide) (by decide)⟩)))) (t_c rfl) fun x y hx hy => ?_) ?_
    · obtain ⟨r, rfl, h2, h3⟩ := hx
      subst hy
      exact ⟨_, rfl, r - 3, rfl, by omega, by omega⟩
    · rintro _ ⟨i, rfl, hi⟩
      obtain ⟨K', e, hK'⟩ := hK.put hi hv
      refine Tri.bind (P := (· = Sum.inl i)) (Tri.lft (show DL.keyOf (.int i) = some (.inl i) from rfl) rfl) ?_
      rintro _ rfl
      refine Tri.bind (P := (· = dd K')) (Tri.lft (show szI (dd K).length (dput (dd K) (.inl i) v) = some (dd K') by rw [e]; exact if_pos (by rw [List.length_map]; have := hK.len; omega)) rfl) ?_
      rintro _ rfl
      exact Tri.pure ⟨_, rfl, K', _, _, rfl, hK'⟩
  · rintro ρ ⟨K, x, y, rfl, hK⟩
    have hS := hK.srt
    have hl := hK.len
    refine t_ret (Tri.eq (a := .tuple ((K30.srt K).map pk)) ?_ ⟨_, rfl, K30.srt K, rfl, hS⟩)
    have lS : (sortI (K.map (·.1))).length = K.length := by rw [(sortI_perm _).length_eq, List.length_map]
    have hsz : sz ((sortI (K.map (·.1))).map PyData.int) = some ((sortI (K.map (·.1))).map PyData.int) := sz_ok (by rw [List.length_map, lS]; omega)
    have hk := sortedDL_ok (X := K) (by omega)
    have s2 : ∀ a b : PyData, sz [a, b] = some [a, b] := fun _ _ => rfl
    have h1 : ∀ ρ : Ev, ρ = [.src, .vl (.int many), .od (dd K), x, y] → lcM ((sortI (K.map (·.1))).map PyData.int) (lcF ρ (gSet 4) (mYes) (mTup (mCons (mName 4) (mCons (mOp dgetD (mOwn 2) (mName 4)) (mNil)))) [4]) = pure ((K30.srt K).map pk) := by
      rintro ρ rfl
      rw [lcM_map (h := fun d => match d with | .int i => .tuple [.int i, vat K i] | d => d) fun d hd => ?_]
      · unfold K30.srt
        rw [List.map_map, List.map_map]; rfl
      · obtain ⟨i, hi, rfl⟩ := List.mem_map.mp hd
        obtain ⟨v, hv⟩ := dlook_some ((sortI_perm _).mem_iff.mp hi)
        have g : dgetD (.dict (dd K)) (.int i) = some (vat K i) := by
          show dlook (dd K) (.inl i) = _
          unfold vat
          rw [hv]; rfl
        unfold lcF
        simp only [mSeq, mIfS, mRet, mRetN, mPass, mOrT, mAndT, mNotT, mAsB, mIsi, mName, mOwn, mC, mOp, mOp3, mCl, mCons, mNil, mFrz, mFrzD, mSeqI, mCall, mAndV, mOrV, mNotV, mIfE, mTup, mLst, mSet, mSetF, mSetD, mPar, mUn, mUn', mCut, mP, mNoP, mIsN, mIsNot, mRng, mKeys, mYes, gSet, gTupD, gsCons, gsNil, mFz, mDrop, mAsg, mAppend, ev0, frzAt, wipeE, rdV_vl, rdB_vl, rdB_ol, rdB_od, asB_b, asI_i, seqD_l, seqD_t, lenI1, lenI2, lenI3, lft_some, pure_bind, getE0, getES, List.set_cons_zero, List.set_cons_succ, List.map_cons, List.map_nil, List.cons_append, List.nil_append, List.replicate_succ, List.replicate_zero, List.append_nil, List.length_cons, List.length_nil, if_true, if_false, ite_true, ite_false, Bool.false_eq_true, reduceIte, Bool.not_true, Bool.not_false, Nat.reduceAdd, Nat.reduceSub, List.zip_cons_cons, List.zip_nil_right, List.foldl_cons, List.foldl_nil, g, s2]
    have h1' := h1 _ rfl
    have ht : tupleD [.list ((K30.srt K).map pk)] = some (.tuple ((K30.srt K).map pk)) := rfl
    generalize (sortI (K.map (·.1))).map PyData.int = KS at h1' hsz hk
    generalize (K30.srt K).map pk = R at h1' ht ⊢
    generalize dd K = dK at *
    simp only [mSeq, mIfS, mRet, mRetN, mPass, mOrT, mAndT, mNotT, mAsB, mIsi, mName, mOwn, mC, mOp, mOp3, mCl, mCons, mNil, mFrz, mFrzD, mSeqI, mCall, mAndV, mOrV, mNotV, mIfE, mTup, mLst, mSet, mSetF, mSetD, mPar, mUn, mUn', mCut, mP, mNoP, mIsN, mIsNot, mRng, mKeys, mYes, gSet, gTupD, gsCons, gsNil, mFz, mDrop, mAsg, mAppend, ev0, frzAt, wipeE, rdV_vl, rdB_vl, rdB_ol, rdB_od, asB_b, asI_i, seqD_l, seqD_t, lenI1, lenI2, lenI3, lft_some, pure_bind, getE0, getES, List.set_cons_zero, List.set_cons_succ, List.map_cons, List.map_nil, List.cons_append, List.nil_append, List.replicate_succ, List.replicate_zero, List.append_nil, List.length_cons, List.length_nil, if_true, if_false, ite_true, ite_false, Bool.false_eq_true, reduceIte, Bool.not_true, Bool.not_false, Nat.reduceAdd, Nat.reduceSub, List.zip_cons_cons, List.zip_nil_right, List.foldl_cons, List.foldl_nil, mLc, hk, hsz, h1', ht]
end K30
end

section
set_option Elab.async false
set_option linter.all false
set_option maxRecDepth 100000
set_option maxHeartbeats 1000000
namespace K30
open PySem PySem.Spec PyProof.Rows L2 DL PL
def fr (q : Rat) : PyData := .tuple [.int q.num, .int (q.den : Nat)]
theorem fracD_fr (p : Int) (d : Nat) (hd : d ≠ 0) : fracD p (d : Int) = fr (Rat.normalize p d hd) := by
  unfold fracD fr
  rw [Rat.normalize_eq]
  simp only [Int.natAbs_natCast, Int.natCast_ediv]
theorem frac_of_ok {p : Int} {d : Nat} (hd : 0 < d) (hs : d < 2 ^ 900) : mf_fraction_of [.int p, .int (d : Nat)] = pure (fracD p (d : Int)) := by
  refine fn_rt ?_
  have hg : 0 < Nat.gcd p.natAbs d := Nat.gcd_pos_of_pos_right _ hd
  have hle : Nat.gcd p.natAbs d ≤ d := Nat.le_of_dvd hd (Nat.gcd_dvd_right _ _)
  have h1 : gcdD [.int p, .int (d : Nat)] = some (.int (Nat.gcd p.natAbs d : Nat)) := by
    show some (PyData.int (Nat.gcd p.natAbs ((d : Int).natAbs) : Nat)) = _
    rw [Int.natAbs_natCast]
  have h2 : gtD (.int (d : Nat)) (.int 0) = some (.bool true) := by
    rw [gtD_int]; congr 2; exact decide_eq_true (by omega)
  have h3 : ∀ i : Int, fdivD (.int i) (.int (Nat.gcd p.natAbs d : Nat)) = some (.int (i / (Nat.gcd p.natAbs d : Nat))) := fun i => fdivD_ok ⟨by omega, by rw [Int.natAbs_natCast]; exact log2_small (by omega)⟩
  have s2 : ∀ a b : PyData, sz [a, b] = some [a, b] := fun _ _ => rfl
  have e : fracD p (d : Int) = .tuple [.int (p / (Nat.gcd p.natAbs d : Nat)), .int ((d : Int) / (Nat.gcd p.natAbs d : Nat))] := by
    unfold fracD; rw [Int.natAbs_natCast]
  rw [e]
  unfold m_fraction_of
  simp only [mSeq, mIfS, mRet, mRetN, mPass, mOrT, mAndT, mNotT, mAsB, mIsi, mName, mOwn, mC, mOp, mOp3, mCl, mCons, mNil, mFrz, mFrzD, mSeqI, mCall, mAndV, mOrV, mNotV, mIfE, mTup, mLst, mSet, mSetF, mSetD, mPar, mUn, mUn', mCut, mP, mNoP, mIsN, mIsNot, mRng, mKeys, mYes, gSet, gTupD, gsCons, gsNil, mFz, mDrop, mAsg, mAppend, ev0, frzAt, wipeE, rdV_vl, rdB_vl, rdB_ol, rdB_od, asB_b, asI_i, seqD_l, seqD_t, lenI1, lenI2, lenI3, lft_some, pure_bind, getE0, getES, List.set_cons_zero, List.set_cons_succ, List.map_cons, List.map_nil, List.cons_append, List.nil_append, List.replicate_succ, List.replicate_zero, List.append_nil, List.length_cons, List.length_nil, if_true, if_false, ite_true, ite_false, Bool.false_eq_true, reduceIte, Bool.not_true, Bool.not_false, Nat.reduceAdd, Nat.reduceSub, List.zip_cons_cons, List.zip_nil_right, List.foldl_cons, List.foldl_nil, h1, h2, h3, s2]
theorem frac_neg_ok {p : Int} {d g : Nat} (hg : Nat.gcd p.natAbs d = g) (h0 : 0 < g) (h1 : g < 1000) (hd : 0 < d) : mf_fraction_of [.int p, .int (-(d : Int))] = pure (.tuple [.int (p.fdiv (-(g : Int))), .int ((-(d : Int)).fdiv (-(g : Int)))]) := by
  refine fn_rt ?_
  have h1' : gcdD [.int p, .int (-(d : Int))] = some (.int (g : Nat)) := by
    show some (PyData.int (Nat.gcd p.natAbs ((-(d : Int)).natAbs) : Nat)) = _
    rw [Int.natAbs_neg, Int.natAbs_natCast, hg]
  have h2 : gtD (.int (-(d : Int))) (.int 0) = some (.bool false) := by
    rw [gtD_int]; congr 2; exact decide_eq_false (by omega)
  have hn : negD (.int (g : Nat)) = some (.int (-(g : Int))) := rfl
  have h3 : ∀ i : Int, fdivD (.int i) (.int (-(g : Int))) = some (.int (i.fdiv (-(g : Int)))) := fun i => by
    show (if 0 < -(g : Int) ∧ _ then _ else if -(g : Int) ≠ 0 ∧ _ then _ else _) = _
    rw [if_neg (fun h => by omega), if_pos ⟨by omega, by rw [Int.natAbs_neg, Int.natAbs_natCast]; omega⟩]
  have s2 : ∀ a b : PyData, sz [a, b] = some [a, b] := fun _ _ => rfl
  unfold m_fraction_of
  simp only [mSeq, mIfS, mRet, mRetN, mPass, mOrT, mAndT, mNotT, mAsB, mIsi, mName, mOwn, mC, mOp, mOp3, mCl, mCons, mNil, mFrz, mFrzD, mSeqI, mCall, mAndV, mOrV, mNotV, mIfE, mTup, mLst, mSet, mSetF, mSetD, mPar, mUn, mUn', mCut, mP, mNoP, mIsN, mIsNot, mRng, mKeys, mYes, gSet, gTupD, gsCons, gsNil, mFz, mDrop, mAsg, mAppend, ev0, frzAt, wipeE, rdV_vl, rdB_vl, rdB_ol, rdB_od, asB_b, asI_i, seqD_l, seqD_t, lenI1, lenI2, lenI3, lft_some, pure_bind, getE0, getES, List.set_cons_zero, List.set_cons_succ, List.map_cons, List.map_nil, List.cons_append, List.nil_append, List.replicate_succ, List.replicate_zero, List.append_nil, List.length_cons, List.length_nil, if_true, if_false, ite_true, ite_false, Bool.false_eq_true, reduceIte, Bool.not_true, Bool.not_false, Nat.reduceAdd, Nat.reduceSub, List.zip_cons_cons, List.zip_nil_right, List.foldl_cons, List.foldl_nil, h1', h2, h3, hn, s2]
/-- small enough for what the model does -/
structure Bg (q : Rat) : Prop where
  d : q.den < 2 ^ 400
  n : q.num.natAbs.log2 < 400000
theorem q_bg {M n : Nat} {q : Rat} (h : Q M n q) (h0 : 0 < M) (hM : M < 2 ^ 400) (hn : n ≤ 400000) (n0 : 0 < n) : Bg q := ⟨Nat.lt_of_le_of_lt (Nat.le_of_dvd h0 h.dv) hM, by
  by_cases z : q.num.natAbs = 0
  · rw [z]; decide
  · exact Nat.lt_of_lt_of_le ((Nat.log2_lt z).mpr h.nm) hn⟩
theorem den_log {d : Nat} (h : d < 2 ^ 400) : d.log2 < 500 := by
  by_cases z : d = 0
  · subst z; decide
  · exact Nat.lt_trans ((Nat.log2_lt z).mpr h) (by decide)
theorem mulD_nd {a : Int} {d : Nat} (h1 : a.natAbs.log2 < 400000) (h2 : d < 2 ^ 400) : mulD (.int a) (.int (d : Nat)) = some (.int (a * (d : Nat))) :=
  if_pos (.inr (.inr (by rw [Int.natAbs_natCast]; have := den_log h2; omega)))
theorem mulD_nn {a b : Int} (h1 : a.natAbs.log2 < 400000) (h2 : b.natAbs.log2 < 400000) : mulD (.int a) (.int b) = some (.int (a * b)) :=
  if_pos (.inr (.inr (by omega)))
theorem mulD_dd {d e : Nat} (h1 : d < 2 ^ 400) (h2 : e < 2 ^ 400) : mulD (.int (d : Nat)) (.int (e : Nat)) = some (.int ((d * e : Nat) : Int)) := by
  rw [Int.natCast_mul]
  exact if_pos (.inr (.inr (by rw [Int.natAbs_natCast, Int.natAbs_natCast]; have := den_log h1; have := den_log h2; omega)))
theorem ix0 (x y : PyData) : ixD (.tuple [x, y]) (.int 0) = some x := rfl
theorem ix1 (x y : PyData) : ixD (.tuple [x, y]) (.int 1) = some y := rfl
theorem den_lt {a b : Rat} (ha : Bg a) (hb : Bg b) : 0 < a.den * b.den ∧ a.den * b.den < 2 ^ 900 := by
  refine ⟨Nat.mul_pos a.den_pos b.den_pos, ?_⟩
  have h1 : a.den * b.den ≤ 2 ^ 400 * 2 ^ 400 := Nat.mul_le_mul (Nat.le_of_lt ha.d) (Nat.le_of_lt hb.d)
  rw [← Nat.pow_add] at h1
  exact Nat.lt_of_le_of_lt h1 (Nat.pow_lt_pow_right (by decide) (by decide))
theorem fr_add (a b : Rat) : fracD (a.num * (b.den : Nat) + b.num * (a.den : Nat)) ((a.den * b.den : Nat) : Int) = fr (a + b) := by
  rw [fracD_fr _ _ (Nat.mul_ne_zero a.den_nz b.den_nz), Rat.add_def]
theorem fr_sub (a b : Rat) : fracD (a.num * (b.den : Nat) - b.num * (a.den : Nat)) ((a.den * b.den : Nat) : Int) = fr (a - b) := by
  rw [fracD_fr _ _ (Nat.mul_ne_zero a.den_nz b.den_nz), Rat.sub_def]
theorem fr_mul (a b : Rat) : fracD (a.num * b.num) ((a.den * b.den : Nat) : Int) = fr (a * b) := by
  rw [fracD_fr _ _ (Nat.mul_ne_zero a.den_nz b.den_nz), Rat.mul_def]
section
variable {a b : Rat} (ha : Bg a) (hb : Bg b)
include ha hb
theorem sum_ok : mf_fraction_sum [fr a, fr b] = pure (fr (a + b)) := by
  refine fn_rt ?_
  have h := den_lt ha hb
  have f := frac_of_ok (p := a.num * (b.den : Nat) + b.num * (a.den : Nat)) h.1 h.2
  rw [fr_add] at f
  have m1 := mulD_nd ha.n hb.d
  have m2 := mulD_nd hb.n ha.d
  have m3 := mulD_dd ha.d hb.d
  have ad : ∀ i j : Int, addD (.int i) (.int j) = some (.int (i + j)) := fun _ _ => rfl
  unfold m_fraction_sum fr at *
  simp only [mSeq, mIfS, mRet, mRetN, mPass, mOrT, mAndT, mNotT, mAsB, mIsi, mName, mOwn, mC, mOp, mOp3, mCl, mCons, mNil, mFrz, mFrzD, mSeqI, mCall, mAndV, mOrV, mNotV, mIfE, mTup, mLst, mSet, mSetF, mSetD, mPar, mUn, mUn', mCut, mP, mNoP, mIsN, mIsNot, mRng, mKeys, mYes, gSet, gTupD, gsCons, gsNil, mFz, mDrop, mAsg, mAppend, ev0, frzAt, wipeE, rdV_vl, rdB_vl, rdB_ol, rdB_od, asB_b, asI_i, seqD_l, seqD_t, lenI1, lenI2, lenI3, lft_some, pure_bind, getE0, getES, List.set_cons_zero, List.set_cons_succ, List.map_cons, List.map_nil, List.cons_append, List.nil_append, List.replicate_succ, List.replicate_zero, List.append_nil, List.length_cons, List.length_nil, if_true, if_false, ite_true, ite_false, Bool.false_eq_true, reduceIte, Bool.not_true, Bool.not_false, Nat.reduceAdd, Nat.reduceSub, List.zip_cons_cons, List.zip_nil_right, List.foldl_cons, List.foldl_nil, ix0, ix1, m1, m2, m3, ad, f]
theorem times_ok : mf_fraction_times [fr a, fr b] = pure (fr (a * b)) := by
  refine fn_rt ?_
  have h := den_lt ha hb
  have f := frac_of_ok (p := a.num * b.num) h.1 h.2
  rw [fr_mul] at f
  have m1 := mulD_nn ha.n hb.n
  have m3 := mulD_dd ha.d hb.d
  unfold m_fraction_times fr at *
  simp only [mSeq, mIfS, mRet, mRetN, mPass, mOrT, mAndT, mNotT, mAsB, mIsi, mName, mOwn, mC, mOp, mOp3, mCl, mCons, mNil, mFrz, mFrzD, mSeqI, mCall, mAndV, mOrV, mNotV, mIfE, mTup, mLst, mSet, mSetF, mSetD, mPar, mUn, mUn', mCut, mP, mNoP, mIsN, mIsNot, mRng, mKeys, mYes, gSet, gTupD, gsCons, gsNil, mFz, mDrop, mAsg, mAppend, ev0, frzAt, wipeE, rdV_vl, rdB_vl, rdB_ol, rdB_od, asB_b, asI_i, seqD_l, seqD_t, lenI1, lenI2, lenI3, lft_some, pure_bind, getE0, getES, List.set_cons_zero, List.set_cons_succ, List.map_cons, List.map_nil, List.cons_append, List.nil_append, List.replicate_succ, List.replicate_zero, List.append_nil, List.length_cons, List.length_nil, if_true, if_false, ite_true, ite_false, Bool.false_eq_true, reduceIte, Bool.not_true, Bool.not_false, Nat.reduceAdd, Nat.reduceSub, List.zip_cons_cons, List.zip_nil_right, List.foldl_cons, List.foldl_nil, ix0, ix1, m1, m3, f]
theorem plus_ok : mf_law_plus [fr a, fr b] = pure (fr (a + b)) := by
  refine fn_rt ?_
  have h := den_lt ha hb
  have f := law_fraction_ok (p := a.num * (b.den : Nat) + b.num * (a.den : Nat)) (q := ((a.den * b.den : Nat) : Int)) (by omega) (by rw [Int.natAbs_natCast]; exact h.2)
  rw [fr_add] at f
  have m1 := mulD_nd ha.n hb.d
  have m2 := mulD_nd hb.n ha.d
  have m3 := mulD_dd ha.d hb.d
  have ad : ∀ i j : Int, addD (.int i) (.int j) = some (.int (i + j)) := fun _ _ => rfl
  unfold m_law_plus fr at *
  simp only [mSeq, mIfS, mRet, mRetN, mPass, mOrT, mAndT, mNotT, mAsB, mIsi, mName, mOwn, mC, mOp, mOp3, mCl, mCons, mNil, mFrz, mFrzD, mSeqI, mCall, mAndV, mOrV, mNotV, mIfE, mTup, mLst, mSet, mSetF, mSetD, mPar, mUn, mUn', mCut, mP, mNoP, mIsN, mIsNot, mRng, mKeys, mYes, gSet, gTupD, gsCons, gsNil, mFz, mDrop, mAsg, mAppend, ev0, frzAt, wipeE, rdV_vl, rdB_vl, rdB_ol, rdB_od, asB_b, asI_i, seqD_l, seqD_t, lenI1, lenI2, lenI3, lft_some, pure_bind, getE0, getES, List.set_cons_zero, List.set_cons_succ, List.map_cons, List.map_nil, List.cons_append, List.nil_append, List.replicate_succ, List.replicate_zero, List.append_nil, List.length_cons, List.length_nil, if_true, if_false, ite_true, ite_false, Bool.false_eq_true, reduceIte, Bool.not_true, Bool.not_false, Nat.reduceAdd, Nat.reduceSub, List.zip_cons_cons, List.zip_nil_right, List.foldl_cons, List.foldl_nil, ix0, ix1, m1, m2, m3, ad, f]
theorem by_ok : mf_law_by [fr a, fr b] = pure (fr (a * b)) := by
  refine fn_rt ?_
  have h := den_lt ha hb
  have f := law_fraction_ok (p := a.num * b.num) (q := ((a.den * b.den : Nat) : Int)) (by omega) (by rw [Int.natAbs_natCast]; exact h.2)
  rw [fr_mul] at f
  have m1 := mulD_nn ha.n hb.n
  have m3 := mulD_dd ha.d hb.d
  unfold m_law_by fr at *
  simp only [mSeq, mIfS, mRet, mRetN, mPass, mOrT, mAndT, mNotT, mAsB, mIsi, mName, mOwn, mC, mOp, mOp3, mCl, mCons, mNil, mFrz, mFrzD, mSeqI, mCall, mAndV, mOrV, mNotV, mIfE, mTup, mLst, mSet, mSetF, mSetD, mPar, mUn, mUn', mCut, mP, mNoP, mIsN, mIsNot, mRng, mKeys, mYes, gSet, gTupD, gsCons, gsNil, mFz, mDrop, mAsg, mAppend, ev0, frzAt, wipeE, rdV_vl, rdB_vl, rdB_ol, rdB_od, asB_b, asI_i, seqD_l, seqD_t, lenI1, lenI2, lenI3, lft_some, pure_bind, getE0, getES, List.set_cons_zero, List.set_cons_succ, List.map_cons, List.map_nil, List.cons_append, List.nil_append, List.replicate_succ, List.replicate_zero, List.append_nil, List.length_cons, List.length_nil, if_true, if_false, ite_true, ite_false, Bool.false_eq_true, reduceIte, Bool.not_true, Bool.not_false, Nat.reduceAdd, Nat.reduceSub, List.zip_cons_cons, List.zip_nil_right, List.foldl_cons, List.foldl_nil, ix0, ix1, m1, m3, f]
end
end K30
end

section
set_option Elab.async false
set_option linter.all false
set_option maxRecDepth 100000
set_option maxHeartbeats 1000000
namespace K30
open PySem PySem.Spec PyProof.Rows L2 DL PL
abbrev en (e : Int × Rat) : PyData := .tuple [.int e.1, fr e.2]
abbrev encP (P : Po) : PyData := .tuple (P.map en)
def fd (R : Po) : List (Int × PyData) := R.map fun e => (e.1, fr e.2)
theorem fr0 : fr 0 = .tuple [.int 0, .int 1] := by
  unfold fr
  have h1 : (0 : Rat).num = 0 := by decide +kernel
  have h2 : (0 : Rat).den = 1 := by decide +kernel
  rw [h1, h2]; rfl
theorem dput_fd (R : Po) (i : Int) (c : Rat) : dput (dd (fd R)) (.inl i) (fr c) = dd (fd (putR R i c)) := by
  rw [dput_dd]
  congr 1
  unfold putR
  have ha : ((fd R).any fun e => decide (e.1 = i)) = R.any fun e => decide (e.1 = i) := by
    unfold fd
    rw [List.any_map]; rfl
  rw [ha]
  split
  · unfold fd
    rw [List.map_map, List.map_map]
    refine List.map_congr_left fun e _ => ?_
    show (if e.1 = i then (e.1, fr c) else (e.1, fr e.2)) = ((if e.1 = i then (e.1, c) else e).1, fr (if e.1 = i then (e.1, c) else e).2)
    split <;> rfl
  · unfold fd
    rw [List.map_append]; rfl
theorem dlook_fd : ∀ {R : Po} {i : Int}, (R.map (·.1)).Nodup → i ∈ R.map (·.1) → dlook (dd (fd R)) (.inl i) = some (fr (co R i))
  | [], i, _, h => nomatch h
  | e :: R, i, hn, h => by
    have hn' := hn
    rw [List.map_cons, List.nodup_cons] at hn'
    by_cases he : e.1 = i
    · have : dlook (dd (fd (e :: R))) (.inl i) = some (fr e.2) := by
        unfold dlook
        have hd : decide (DL.keyOf (.int e.1) = some (.inl i)) = true := decide_eq_true ((keyOf_iff e.1 i).mpr he)
        unfold fd
        simp only [List.map_cons, List.find?_cons, hd]
        rfl
      rw [this, ← he, co_nodup hn e List.mem_cons_self]
    · have h' : i ∈ R.map (·.1) := (List.mem_cons.mp (by rwa [List.map_cons] at h)).resolve_left fun z => he z.symm
      have : dlook (dd (fd (e :: R))) (.inl i) = dlook (dd (fd R)) (.inl i) := by
        unfold dlook
        have hd : decide (DL.keyOf (.int e.1) = some (.inl i)) = false := decide_eq_false fun h => he ((keyOf_iff e.1 i).mp h)
        unfold fd
        simp only [List.map_cons, List.find?_cons, hd]
      rw [this, dlook_fd hn'.2 h', co_cons, if_neg he]
theorem dlook_no {R : Po} {i : Int} (h : ¬ i ∈ R.map (·.1)) : dlook (dd (fd R)) (.inl i) = none := by
  unfold dlook
  rw [List.find?_eq_none.mpr fun kv hkv => ?_]
  · rfl
  · obtain ⟨e, he, rfl⟩ := List.mem_map.mp hkv
    obtain ⟨x, hx, rfl⟩ := List.mem_map.mp he
    exact fun z => h (List.mem_map.mpr ⟨x, hx, (keyOf_iff x.1 i).mp (of_decide_eq_true z)⟩)
theorem get2_fd {R : Po} (hn : (R.map (·.1)).Nodup) (i : Int) : dget2D (.dict (dd (fd R))) (.int i) (fr 0) = some (fr (co R i)) := by
  show some ((dlook (dd (fd R)) (.inl i)).getD (fr 0)) = _
  by_cases h : i ∈ R.map (·.1)
  · rw [dlook_fd hn h]; rfl
  · rw [dlook_no h, co_none fun x hx z => h (List.mem_map.mpr ⟨x, hx, z⟩)]; rfl
theorem get_fd {R : Po} (hn : (R.map (·.1)).Nodup) {i : Int} (h : i ∈ R.map (·.1)) : dgetD (.dict (dd (fd R))) (.int i) = some (fr (co R i)) := dlook_fd hn h
theorem fr_inj {a b : Rat} (h : fr a = fr b) : a = b := by
  unfold fr at h
  injection h with h
  injection h with h1 h2
  injection h2 with h2 _
  injection h1 with h1
  injection h2 with h2
  exact Rat.ext h1 (by omega)
theorem ne_fr (a b : Rat) : neD (fr a) (fr b) = some (.bool (decide (a ≠ b))) := by
  unfold fr
  rw [neD_tup2]
  congr 2
  by_cases h : a = b
  · subst h; simp
  · rw [decide_eq_true h]
    have : ¬ (a.num = b.num ∧ (a.den : Int) = (b.den : Int)) := fun z => h (Rat.ext z.1 (by omega))
    rw [← Bool.decide_and, decide_eq_false this]; rfl
/-- the bounds in which a poly is put together -/
structure Bd (N k : Nat) (L : Po) : Prop where
  pos : 0 < N
  M : N < 2 ^ 400
  k0 : 0 < k
  len : L.length ≤ 60
  q : ∀ e ∈ L, Q N k e.2
  top : k + 401 * L.length ≤ 400000
section
variable {N k : Nat} {L : Po}
def stepP : PyData → Ev → M Fl := fun d ρ => do let ρ' ← gTupD 2 (gsCons (gSet 2) (gsCons (gSet 3) (gsNil))) d ρ; mDPut 1 (mName 2) (mCall 2 mf_fraction_sum (mCons (mOp3 dget2D (mOwn 1) (mName 2) (mC c_ZERO)) (mCons (mName 3) (mNil)))) ρ'
def fr4 (x0 : Sl) (R : Po) (y2 y3 : Sl) : Ev := [x0, .od (dd (fd R)), y2, y3]
theorem step_ok {R : Po} {e : Int × Rat} (x0 y2 y3 : Sl) (hn : (R.map (·.1)).Nodup) (h1 : Bg (co R e.1)) (h2 : Bg e.2) (hl : R.length ≤ 60) :
    stepP (en e) (fr4 x0 R y2 y3) = pure (.nx (fr4 x0 (putR R e.1 (co R e.1 + e.2)) (.vl (.int e.1)) (.vl (fr e.2)))) := by
  have g := get2_fd hn e.1
  have s := sum_ok h1 h2
  have p := plus_ok h1 h2
  have c0 : c_ZERO = fr 0 := fr0.symm
  have s2 : sz [PyData.int 0, .int 1] = some [.int 0, .int 1] := rfl
  have z0 : (PyData.tuple [.int 0, .int 1]) = fr 0 := fr0.symm
  have d1 := dput_fd R e.1 (co R e.1 + e.2)
  have hk : DL.keyOf (.int e.1) = some (.inl e.1) := rfl
  have hz : ∀ K : List (PyData × PyData), szI (dd (fd R)).length K = some K := fun K => if_pos (by rw [List.length_map]; unfold fd; rw [List.length_map]; omega)
  have ho : ∀ a c d : Sl, ∀ K : List (PyData × PyData), odAt [a, .od K, c, d] 1 = some K := fun _ _ _ _ => rfl
  unfold fr4
  generalize dd (fd R) = dR at *
  generalize dd (fd (putR R e.1 (co R e.1 + e.2))) = dR' at *
  unfold stepP mDPut en
  simp only [mSeq, mIfS, mRet, mRetN, mPass, mOrT, mAndT, mNotT, mAsB, mIsi, mName, mOwn, mC, mOp, mOp3, mCl, mCons, mNil, mFrz, mFrzD, mSeqI, mCall, mAndV, mOrV, mNotV, mIfE, mTup, mLst, mSet, mSetF, mSetD, mPar, mUn, mUn', mCut, mP, mNoP, mIsN, mIsNot, mRng, mKeys, mYes, gSet, gTupD, gsCons, gsNil, mFz, mDrop, mAsg, mAppend, ev0, frzAt, wipeE, rdV_vl, rdB_vl, rdB_ol, rdB_od, asB_b, asI_i, seqD_l, seqD_t, lenI1, lenI2, lenI3, lft_some, pure_bind, getE0, getES, List.set_cons_zero, List.set_cons_succ, List.map_cons, List.map_nil, List.cons_append, List.nil_append, List.replicate_succ, List.replicate_zero, List.append_nil, List.length_cons, List.length_nil, if_true, if_false, ite_true, ite_false, Bool.false_eq_true, reduceIte, Bool.not_true, Bool.not_false, Nat.reduceAdd, Nat.reduceSub, List.zip_cons_cons, List.zip_nil_right, List.foldl_cons, List.foldl_nil, c0, g, s, hk, d1, hz, ho]
theorem loop_ok (h0 : 0 < N) (hM : N < 2 ^ 400) (k0 : 0 < k) {f : PyData → Ev → M Fl} (hf : ∀ {R : Po} {e : Int × Rat} (x0 y2 y3 : Sl), (R.map (·.1)).Nodup → Bg (co R e.1) → Bg e.2 → R.length ≤ 60 → f (en e) (fr4 x0 R y2 y3) = pure (.nx (fr4 x0 (putR R e.1 (co R e.1 + e.2)) (.vl (.int e.1)) (.vl (fr e.2))))) (x0 : Sl) :
    ∀ (L D R : Po) (y2 y3 : Sl), Done N (k + 401 * D.length) D R → (∀ e ∈ L, Q N k e.2) → D.length + L.length ≤ 60 → k + 401 * (D.length + L.length) ≤ 400000 →
      ∃ R' z2 z3, Done N (k + 401 * (D.length + L.length)) (D ++ L) R' ∧ DL.forM (L.map en) f (fr4 x0 R y2 y3) = pure (.nx (fr4 x0 R' z2 z3))
  | [], D, R, y2, y3, hd, _, _, _ => ⟨R, y2, y3, by rw [List.append_nil]; exact hd, rfl⟩
  | e :: L, D, R, y2, y3, hd, hq, hl, ht => by
    rw [List.length_cons] at hl ht
    have q1 : Q N (k + 401 * D.length) e.2 := (hq e List.mem_cons_self).mono (by omega)
    have q2 := hd.co (by omega) e.1
    have st := hf (R := R) (e := e) x0 y2 y3 hd.nd (q_bg q2 h0 hM (by omega) (by omega)) (q_bg q1 h0 hM (by omega) (by omega)) (by have := hd.len; omega)
    have hd' := hd.put (by omega) q1 h0 hM
    have e1 : k + 401 * D.length + 400 + 1 = k + 401 * (D ++ [e]).length := by rw [List.length_append, List.length_singleton]; omega
    rw [e1] at hd'
    have el : (D ++ [e]).length = D.length + 1 := by rw [List.length_append]; rfl
    obtain ⟨R', z2, z3, h1, h2⟩ := loop_ok h0 hM k0 hf x0 L (D ++ [e]) _ (.vl (.int e.1)) (.vl (fr e.2)) hd' (fun x hx => hq x (List.mem_cons_of_mem _ hx)) (by omega) (by omega)
    refine ⟨R', z2, z3, ?_, ?_⟩
    · rw [List.append_assoc, List.singleton_append, el] at h1
      rw [List.length_cons, show D.length + (L.length + 1) = D.length + 1 + L.length by omega]; exact h1
    · rw [List.map_cons]
      unfold DL.forM
      rw [st]
      exact h2
/-- the last part of both -/
theorem tail_ok {D R : Po} (hd : Done N k D R) (k0 : 0 < k) (hl : D.length ≤ 60) (x0 y2 y3 : Sl) :
    (mRet (mCl tupleD (mCons (mFrz (mLc (mSeqI (mFrz (mCl sortedDL (mCons (mOwn 1) (mNil))))) (gSet 2) (mAsB (mOp neD (mOp dgetD (mOwn 1) (mName 2)) (mC c_ZERO))) (mTup (mCons (mName 2) (mCons (mOp dgetD (mOwn 1) (mName 2)) (mNil)))) [2])) (mNil))) (fr4 x0 R y2 y3) = pure (.rt (encP (PL.fin R (sortI (R.map (·.1))))))) ∧
    (mRet (mCl tupleD (mCons (mFrz (mLc (mSeqI (mFrz (mCl sortedDL (mCons (mOwn 1) (mNil))))) (gSet 2) (mAsB (mOp neD (mOp dgetD (mOwn 1) (mName 2)) (mTup (mCons (mC (.int 0)) (mCons (mC (.int 1)) (mNil)))))) (mTup (mCons (mName 2) (mCons (mOp dgetD (mOwn 1) (mName 2)) (mNil)))) [2])) (mNil))) (fr4 x0 R y2 y3) = pure (.rt (encP (PL.fin R (sortI (R.map (·.1))))))) := by
  have hl2 := hd.len
  have lR : (fd R).length = R.length := List.length_map _
  have hk := sortedDL_ok (X := fd R) (by omega)
  have ek : (fd R).map (·.1) = R.map (·.1) := by unfold fd; rw [List.map_map]; rfl
  rw [ek] at hk
  have hm : ∀ i ∈ sortI (R.map (·.1)), i ∈ R.map (·.1) := fun i hi => (sortI_perm _).mem_iff.mp hi
  have hsz : sz ((sortI (R.map (·.1))).map PyData.int) = some ((sortI (R.map (·.1))).map PyData.int) := sz_ok (by rw [List.length_map, (sortI_perm _).length_eq, List.length_map]; omega)
  have s2 : ∀ a b : PyData, sz [a, b] = some [a, b] := fun _ _ => rfl
  have c0 : c_ZERO = fr 0 := fr0.symm
  have z0 : (PyData.tuple [.int 0, .int 1]) = fr 0 := fr0.symm
  have key : ∀ f : PyData → M (Option PyData), (∀ i ∈ sortI (R.map (·.1)), f (.int i) = pure (if decide (co R i ≠ 0) = true then some (en (i, co R i)) else none)) → lcM ((sortI (R.map (·.1))).map PyData.int) f = pure ((PL.fin R (sortI (R.map (·.1)))).map en) := fun f hf => by
    rw [lcM_filter (c := fun d => match d with | .int i => decide (co R i ≠ 0) | _ => false) (h := fun d => match d with | .int i => en (i, co R i) | d => d) fun d hd => ?_]
    · rw [List.filter_map, List.map_map]
      unfold PL.fin
      rw [List.map_map]; rfl
    · obtain ⟨i, hi, rfl⟩ := List.mem_map.mp hd
      exact hf i hi
  have ht : tupleD [.list ((PL.fin R (sortI (R.map (·.1)))).map en)] = some (encP (PL.fin R (sortI (R.map (·.1))))) := rfl
  refine ⟨?_, ?_⟩
  · have h1 := key (lcF (fr4 x0 R y2 y3) (gSet 2) (mAsB (mOp neD (mOp dgetD (mOwn 1) (mName 2)) (mC c_ZERO))) (mTup (mCons (mName 2) (mCons (mOp dgetD (mOwn 1) (mName 2)) (mNil)))) [2]) fun i hi => by
      have g := get_fd hd.nd (hm i hi)
      have nn := ne_fr (co R i) 0
      unfold lcF fr4
      generalize dd (fd R) = dR at *
      simp only [mSeq, mIfS, mRet, mRetN, mPass, mOrT, mAndT, mNotT, mAsB, mIsi, mName, mOwn, mC, mOp, mOp3, mCl, mCons, mNil, mFrz, mFrzD, mSeqI, mCall, mAndV, mOrV, mNotV, mIfE, mTup, mLst, mSet, mSetF, mSetD, mPar, mUn, mUn', mCut, mP, mNoP, mIsN, mIsNot, mRng, mKeys, mYes, gSet, gTupD, gsCons, gsNil, mFz, mDrop, mAsg, mAppend, ev0, frzAt, wipeE, rdV_vl, rdB_vl, rdB_ol, rdB_od, asB_b, asI_i, seqD_l, seqD_t, lenI1, lenI2, lenI3, lft_some, pure_bind, getE0, getES, List.set_cons_zero, List.set_cons_succ, List.map_cons, List.map_nil, List.cons_append, List.nil_append, List.replicate_succ, List.replicate_zero, List.append_nil, List.length_cons, List.length_nil, if_true, if_false, ite_true, ite_false, Bool.false_eq_true, reduceIte, Bool.not_true, Bool.not_false, Nat.reduceAdd, Nat.reduceSub, List.zip_cons_cons, List.zip_nil_right, List.foldl_cons, List.foldl_nil, g, c0, nn, s2]
      cases decide (co R i ≠ 0) <;> rfl
    unfold fr4 at *
    generalize dd (fd R) = dR at *
    generalize (sortI (R.map (·.1))).map PyData.int = KS at h1 hsz hk
    generalize encP (PL.fin R (sortI (R.map (·.1)))) = out at ht ⊢
    simp only [mSeq, mIfS, mRet, mRetN, mPass, mOrT, mAndT, mNotT, mAsB, mIsi, mName, mOwn, mC, mOp, mOp3, mCl, mCons, mNil, mFrz, mFrzD, mSeqI, mCall, mAndV, mOrV, mNotV, mIfE, mTup, mLst, mSet, mSetF, mSetD, mPar, mUn, mUn', mCut, mP, mNoP, mIsN, mIsNot, mRng, mKeys, mYes, gSet, gTupD, gsCons, gsNil, mFz, mDrop, mAsg, mAppend, ev0, frzAt, wipeE, rdV_vl, rdB_vl, rdB_ol, rdB_od, asB_b, asI_i, seqD_l, seqD_t, lenI1, lenI2, lenI3, lft_some, pure_bind, getE0, getES, List.set_cons_zero, List.set_cons_succ, List.map_cons, List.map_nil, List.cons_append, List.nil_append, List.replicate_succ, List.replicate_zero, List.append_nil, List.length_cons, List.length_nil, if_true, if_false, ite_true, ite_false, Bool.false_eq_true, reduceIte, Bool.not_true, Bool.not_false, Nat.reduceAdd, Nat.reduceSub, List.zip_cons_cons, List.zip_nil_right, List.foldl_cons, List.foldl_nil, mLc, hk, hsz, h1, ht]
  · have h1 := key (lcF (fr4 x0 R y2 y3) (gSet 2) (mAsB (mOp neD (mOp dgetD (mOwn 1) (mName 2)) (mTup (mCons (mC (.int 0)) (mCons (mC (.int 1)) (mNil)))))) (mTup (mCons (mName 2) (mCons (mOp dgetD (mOwn 1) (mName 2)) (mNil)))) [2]) fun i hi => by
      have g := get_fd hd.nd (hm i hi)
      have nn := ne_fr (co R i) 0
      unfold lcF fr4
      generalize dd (fd R) = dR at *
      simp only [mSeq, mIfS, mRet, mRetN, mPass, mOrT, mAndT, mNotT, mAsB, mIsi, mName, mOwn, mC, mOp, mOp3, mCl, mCons, mNil, mFrz, mFrzD, mSeqI, mCall, mAndV, mOrV, mNotV, mIfE, mTup, mLst, mSet, mSetF, mSetD, mPar, mUn, mUn', mCut, mP, mNoP, mIsN, mIsNot, mRng, mKeys, mYes, gSet, gTupD, gsCons, gsNil, mFz, mDrop, mAsg, mAppend, ev0, frzAt, wipeE, rdV_vl, rdB_vl, rdB_ol, rdB_od, asB_b, asI_i, seqD_l, seqD_t, lenI1, lenI2, lenI3, lft_some, pure_bind, getE0, getES, List.set_cons_zero, List.set_cons_succ, List.map_cons, List.map_nil, List.cons_append, List.nil_append, List.replicate_succ, List.replicate_zero, List.append_nil, List.length_cons, List.length_nil, if_true, if_false, ite_true, ite_false, Bool.false_eq_true, reduceIte, Bool.not_true, Bool.not_false, Nat.reduceAdd, Nat.reduceSub, List.zip_cons_cons, List.zip_nil_right, List.foldl_cons, List.foldl_nil, s2, z0, g, nn]
      cases decide (co R i ≠ 0) <;> rfl
    unfold fr4 at *
    generalize dd (fd R) = dR at *
    generalize (sortI (R.map (·.1))).map PyData.int = KS at h1 hsz hk
    generalize encP (PL.fin R (sortI (R.map (·.1)))) = out at ht ⊢
    simp only [mSeq, mIfS, mRet, mRetN, mPass, mOrT, mAndT, mNotT, mAsB, mIsi, mName, mOwn, mC, mOp, mOp3, mCl, mCons, mNil, mFrz, mFrzD, mSeqI, mCall, mAndV, mOrV, mNotV, mIfE, mTup, mLst, mSet, mSetF, mSetD, mPar, mUn, mUn', mCut, mP, mNoP, mIsN, mIsNot, mRng, mKeys, mYes, gSet, gTupD, gsCons, gsNil, mFz, mDrop, mAsg, mAppend, ev0, frzAt, wipeE, rdV_vl, rdB_vl, rdB_ol, rdB_od, asB_b, asI_i, seqD_l, seqD_t, lenI1, lenI2, lenI3, lft_some, pure_bind, getE0, getES, List.set_cons_zero, List.set_cons_succ, List.map_cons, List.map_nil, List.cons_append, List.nil_append, List.replicate_succ, List.replicate_zero, List.append_nil, List.length_cons, List.length_nil, if_true, if_false, ite_true, ite_false, Bool.false_eq_true, reduceIte, Bool.not_true, Bool.not_false, Nat.reduceAdd, Nat.reduceSub, List.zip_cons_cons, List.zip_nil_right, List.foldl_cons, List.foldl_nil, mLc, hk, hsz, h1, ht]
theorem seq_nx {m1 m2 : Ev → M Fl} {ρ ρ' : Ev} (h : m1 ρ = pure (.nx ρ')) : mSeq m1 m2 ρ = m2 ρ' := by
  unfold mSeq
  rw [h]; rfl
theorem for_ok {mi : Ev → M (List PyData)} {g : PyData → Ev → M Ev} {mb : Ev → M Fl} {ds : List PyData} {ρ : Ev} {fl : Fl} (h : mi ρ = pure ds) (h2 : DL.forM ds (fun d ρ => do let ρ' ← g d ρ; mb ρ') ρ = pure fl) : mFor mi g mb ρ = pure fl := by
  unfold mFor
  rw [h]; exact h2
/-- both put a list of terms together alike -/
theorem put_ok (h : Bd N k L) : ∃ P, IsCf L P ∧ (∀ e ∈ P, Q N (k + 401 * L.length) e.2) ∧ P.length ≤ L.length ∧ mf_poly_of [.list (L.map en)] = pure (encP P) := by
  have h0 := h.pos
  have hM := h.M
  have ht := h.top
  have hl := h.len
  have run : ∀ {f : PyData → Ev → M Fl} (hf : ∀ {R : Po} {e : Int × Rat} (x0 y2 y3 : Sl), (R.map (·.1)).Nodup → Bg (co R e.1) → Bg e.2 → R.length ≤ 60 → f (en e) (fr4 x0 R y2 y3) = pure (.nx (fr4 x0 (putR R e.1 (co R e.1 + e.2)) (.vl (.int e.1)) (.vl (fr e.2))))) (x0 : Sl), ∃ R' z2 z3, Done N (k + 401 * L.length) L R' ∧ DL.forM (L.map en) f (fr4 x0 [] .no .no) = pure (.nx (fr4 x0 R' z2 z3)) := fun hf x0 => by
    have := loop_ok h0 hM h.k0 hf x0 L [] [] .no .no Done.nil h.q (by simpa using hl) (by simpa using ht)
    simpa using this
  have s2 : sz [PyData.int 0, .int 1] = some [.int 0, .int 1] := rfl
  have ek : k + 401 * L.length = k + 401 * L.length := rfl
  have fin1 := fun {x0 : Sl} {R : Po} {z2 z3 : Sl} (hd : Done N (k + 401 * L.length) L R) => tail_ok hd (by have := h.k0; omega) hl x0 z2 z3
  have sq : ∀ {D R : Po}, Done N (k + 401 * L.length) L D → Done N (k + 401 * L.length) L R → PL.fin D (sortI (D.map (·.1))) = PL.fin R (sortI (R.map (·.1))) := fun h1 h2 =>
    (h1.fin (by have := h.k0; omega) (sortI_le _) (sortI_perm _)).1.uniq (h2.fin (by have := h.k0; omega) (sortI_le _) (sortI_perm _)).1 fun _ => rfl
  obtain ⟨R, z2, z3, hd, e1⟩ := run (f := stepP) (fun x0 y2 y3 a b c d => step_ok x0 y2 y3 a b c d) (.vl (.list (L.map en)))
  have hf := hd.fin (by have := h.k0; omega) (sortI_le _) (sortI_perm _)
  refine ⟨_, hf.1, hf.2.1, hf.2.2, fn_rt ?_⟩
  · have t := (fin1 (x0 := .vl (.list (L.map en))) (z2 := z2) (z3 := z3) hd).1
    generalize encP (PL.fin R (sortI (R.map (·.1)))) = out at t ⊢
    show m_poly_of (fr4 (.vl (.list (L.map en))) [] .no .no |>.set 1 .no) = _
    unfold m_poly_of
    rw [seq_nx (ρ' := fr4 (.vl (.list (L.map en))) [] .no .no) rfl, seq_nx (for_ok (ds := L.map en) rfl e1)]
    exact t
end
end K30
end

section
set_option Elab.async false
set_option linter.all false
set_option maxRecDepth 100000
set_option maxHeartbeats 1000000
namespace K30
open PySem PySem.Spec PyProof.Rows L2 DL PL
theorem lcM_of {α : Type} {f : PyData → M (Option PyData)} (g h : α → PyData) : ∀ {A : List α}, (∀ a ∈ A, f (g a) = pure (some (h a))) → lcM (A.map g) f = pure (A.map h)
  | [], _ => rfl
  | a :: A, hf => by
    rw [List.map_cons]
    unfold lcM
    rw [hf a List.mem_cons_self, lcM_of g h fun x hx => hf x (List.mem_cons_of_mem _ hx)]
    rfl
/-- what comes of a list of terms -/
structure Put (N k : Nat) (L P : Po) : Prop where
  cf : IsCf L P
  q : ∀ e ∈ P, Q N k e.2
  len : P.length ≤ L.length
  l60 : L.length ≤ 60
  of : mf_poly_of [.list (L.map en)] = pure (encP P)
theorem put_ex {N k m : Nat} {L : Po} (h : Bd N k L) (hm : k + 401 * L.length ≤ m) : ∃ P, Put N m L P := by
  obtain ⟨P, h1, h2, h3, h4⟩ := put_ok h
  exact ⟨P, h1, fun e he => (h2 e he).mono hm, h3, h.len, h4⟩
theorem Put.unique {N k N' k' : Nat} {L L' P P' : Po} (h : Put N k L P) (h' : Put N' k' L' P') (e : ∀ i, co L i = co L' i) : P = P' := h.cf.uniq h'.cf e
section
variable {N k : Nat} {A B P : Po}
theorem psum_ok (h : Put N k (A ++ B) P) : mf_poly_sum [encP A, encP B] = pure (encP P) := by
  refine fn_rt ?_
  have ho := h.of
  rw [List.map_append] at ho
  have hl := h.l60
  rw [List.length_append] at hl
  have e2 : sz (A.map en ++ B.map en) = some (A.map en ++ B.map en) := sz_ok (by rw [List.length_append, List.length_map, List.length_map]; omega)
  show m_poly_sum [.vl (.tuple (A.map en)), .vl (.tuple (B.map en))] = pure (.rt (.tuple (P.map en)))
  unfold m_poly_sum
  unfold encP at ho
  generalize A.map en = a at *
  generalize B.map en = b at *
  generalize P.map en = p at *
  simp only [mSeq, mIfS, mRet, mRetN, mPass, mOrT, mAndT, mNotT, mAsB, mIsi, mName, mOwn, mC, mOp, mOp3, mCl, mCons, mNil, mFrz, mFrzD, mSeqI, mCall, mAndV, mOrV, mNotV, mIfE, mTup, mLst, mSet, mSetF, mSetD, mPar, mUn, mUn', mCut, mP, mNoP, mIsN, mIsNot, mRng, mKeys, mYes, gSet, gTupD, gsCons, gsNil, mFz, mDrop, mAsg, mAppend, ev0, frzAt, wipeE, rdV_vl, rdB_vl, rdB_ol, rdB_od, asB_b, asI_i, seqD_l, seqD_t, lenI1, lenI2, lenI3, lft_some, pure_bind, getE0, getES, List.set_cons_zero, List.set_cons_succ, List.map_cons, List.map_nil, List.cons_append, List.nil_append, List.replicate_succ, List.replicate_zero, List.append_nil, List.length_cons, List.length_nil, if_true, if_false, ite_true, ite_false, Bool.false_eq_true, reduceIte, Bool.not_true, Bool.not_false, Nat.reduceAdd, Nat.reduceSub, List.zip_cons_cons, List.zip_nil_right, List.foldl_cons, List.foldl_nil, mStar, e2, ho]
theorem pscaled_ok {c : Rat} (hc : Bg c) (hA : ∀ e ∈ A, Bg e.2) (h : Put N k (scaled c A) P) : mf_poly_scaled [fr c, encP A] = pure (encP P) := by
  refine fn_rt ?_
  have ho := h.of
  have hl := h.l60
  unfold scaled at hl
  rw [List.length_map] at hl
  have e2 : sz (A.map en) = some (A.map en) := sz_ok (by rw [List.length_map]; omega)
  have s2 : ∀ a b : PyData, sz [a, b] = some [a, b] := fun _ _ => rfl
  have h1 : lcM (A.map en) (lcF [.vl (fr c), .vl (encP A), .no, .no] (gTupD 2 (gsCons (gSet 2) (gsCons (gSet 3) (gsNil)))) (mYes) (mTup (mCons (mName 2) (mCons (mCall 2 mf_fraction_times (mCons (mName 0) (mCons (mName 3) (mNil)))) (mNil)))) [2, 3]) = pure ((scaled c A).map en) := by
    rw [lcM_of en (fun e => en (e.1, c * e.2)) fun e he => ?_]
    · unfold scaled; rw [List.map_map]; rfl
    · have t := times_ok hc (hA e he)
      unfold lcF en
      generalize encP A = a at *
      simp only [mSeq, mIfS, mRet, mRetN, mPass, mOrT, mAndT, mNotT, mAsB, mIsi, mName, mOwn, mC, mOp, mOp3, mCl, mCons, mNil, mFrz, mFrzD, mSeqI, mCall, mAndV, mOrV, mNotV, mIfE, mTup, mLst, mSet, mSetF, mSetD, mPar, mUn, mUn', mCut, mP, mNoP, mIsN, mIsNot, mRng, mKeys, mYes, gSet, gTupD, gsCons, gsNil, mFz, mDrop, mAsg, mAppend, ev0, frzAt, wipeE, rdV_vl, rdB_vl, rdB_ol, rdB_od, asB_b, asI_i, seqD_l, seqD_t, lenI1, lenI2, lenI3, lft_some, pure_bind, getE0, getES, List.set_cons_zero, List.set_cons_succ, List.map_cons, List.map_nil, List.cons_append, List.nil_append, List.replicate_succ, List.replicate_zero, List.append_nil, List.length_cons, List.length_nil, if_true, if_false, ite_true, ite_false, Bool.false_eq_true, reduceIte, Bool.not_true, Bool.not_false, Nat.reduceAdd, Nat.reduceSub, List.zip_cons_cons, List.zip_nil_right, List.foldl_cons, List.foldl_nil, t, s2]
  show m_poly_scaled [.vl (fr c), .vl (.tuple (A.map en)), .no, .no] = pure (.rt (.tuple (P.map en)))
  unfold m_poly_scaled
  unfold encP at h1 ho
  generalize (scaled c A).map en = sc at h1 ho
  generalize A.map en = a at *
  generalize P.map en = p at *
  simp only [mSeq, mIfS, mRet, mRetN, mPass, mOrT, mAndT, mNotT, mAsB, mIsi, mName, mOwn, mC, mOp, mOp3, mCl, mCons, mNil, mFrz, mFrzD, mSeqI, mCall, mAndV, mOrV, mNotV, mIfE, mTup, mLst, mSet, mSetF, mSetD, mPar, mUn, mUn', mCut, mP, mNoP, mIsN, mIsNot, mRng, mKeys, mYes, gSet, gTupD, gsCons, gsNil, mFz, mDrop, mAsg, mAppend, ev0, frzAt, wipeE, rdV_vl, rdB_vl, rdB_ol, rdB_od, asB_b, asI_i, seqD_l, seqD_t, lenI1, lenI2, lenI3, lft_some, pure_bind, getE0, getES, List.set_cons_zero, List.set_cons_succ, List.map_cons, List.map_nil, List.cons_append, List.nil_append, List.replicate_succ, List.replicate_zero, List.append_nil, List.length_cons, List.length_nil, if_true, if_false, ite_true, ite_false, Bool.false_eq_true, reduceIte, Bool.not_true, Bool.not_false, Nat.reduceAdd, Nat.reduceSub, List.zip_cons_cons, List.zip_nil_right, List.foldl_cons, List.foldl_nil, mLc, e2, h1, ho]
theorem pless_ok {P1 : Po} {N' k' : Nat} (hB : ∀ e ∈ B, Bg e.2) (h1 : Put N' k' (scaled (-1) B) P1) (h : Put N k (A ++ P1) P) : mf_poly_less [encP A, encP B] = pure (encP P) := by
  refine fn_rt ?_
  have b1 : Bg (-1) := ⟨by decide +kernel, by decide +kernel⟩
  have t1 := pscaled_ok b1 hB h1
  have t2 := psum_ok h
  have e : fr (-1) = .tuple [.int (-1), .int 1] := by
    unfold fr
    rw [show (-1 : Rat).num = -1 by decide +kernel, show (-1 : Rat).den = 1 by decide +kernel]; rfl
  rw [e] at t1
  have s2 : ∀ a b : PyData, sz [a, b] = some [a, b] := fun _ _ => rfl
  have n1 : negD (.int 1) = some (.int (-1)) := rfl
  unfold m_poly_less
  generalize encP A = a at *
  generalize encP B = b at *
  generalize encP P1 = p1 at *
  generalize encP P = p at *
  simp only [mSeq, mIfS, mRet, mRetN, mPass, mOrT, mAndT, mNotT, mAsB, mIsi, mName, mOwn, mC, mOp, mOp3, mCl, mCons, mNil, mFrz, mFrzD, mSeqI, mCall, mAndV, mOrV, mNotV, mIfE, mTup, mLst, mSet, mSetF, mSetD, mPar, mUn, mUn', mCut, mP, mNoP, mIsN, mIsNot, mRng, mKeys, mYes, gSet, gTupD, gsCons, gsNil, mFz, mDrop, mAsg, mAppend, ev0, frzAt, wipeE, rdV_vl, rdB_vl, rdB_ol, rdB_od, asB_b, asI_i, seqD_l, seqD_t, lenI1, lenI2, lenI3, lft_some, pure_bind, getE0, getES, List.set_cons_zero, List.set_cons_succ, List.map_cons, List.map_nil, List.cons_append, List.nil_append, List.replicate_succ, List.replicate_zero, List.append_nil, List.length_cons, List.length_nil, if_true, if_false, ite_true, ite_false, Bool.false_eq_true, reduceIte, Bool.not_true, Bool.not_false, Nat.reduceAdd, Nat.reduceSub, List.zip_cons_cons, List.zip_nil_right, List.foldl_cons, List.foldl_nil, s2, n1, t1, t2]
theorem ptimes_loop (hA : ∀ e ∈ A, Bg e.2) (hB : ∀ e ∈ B, Bg e.2) (hl : A.length * B.length ≤ 60) (x0 : Sl) : ∀ (L : Po) (D : List PyData) (y3 y4 y5 y6 : Sl), (∀ e ∈ L, e ∈ A) → D.length + L.length * B.length ≤ 1000 → B.length ≤ 60 →
    ∃ z3 z4, DL.forM (L.map en) (fun d ρ => do let ρ' ← gTupD 2 (gsCons (gSet 3) (gsCons (gSet 4) (gsNil))) d ρ; mExtend 2 (mFrz (mLc (mSeqI (mName 1)) (gTupD 2 (gsCons (gSet 5) (gsCons (gSet 6) (gsNil)))) (mYes) (mTup (mCons (mOp addD (mName 3) (mName 5)) (mCons (mCall 2 mf_fraction_times (mCons (mName 4) (mCons (mName 6) (mNil)))) (mNil)))) [5, 6])) ρ') [x0, .vl (encP B), .ol D, y3, y4, y5, y6] = pure (.nx [x0, .vl (encP B), .ol (D ++ (timesAll L B).map en), z3, z4, y5, y6])
  | [], D, y3, y4, y5, y6, _, _, _ => ⟨y3, y4, by show _ = pure (Fl.nx [x0, .vl (encP B), .ol (D ++ []), y3, y4, y5, y6]); rw [List.append_nil]; rfl⟩
  | e :: L, D, y3, y4, y5, y6, hL, hd, hb => by
    rw [List.length_cons, Nat.succ_mul] at hd
    have h1 : lcM (B.map en) (lcF [x0, .vl (encP B), .ol D, .vl (.int e.1), .vl (fr e.2), y5, y6] (gTupD 2 (gsCons (gSet 5) (gsCons (gSet 6) (gsNil)))) (mYes) (mTup (mCons (mOp addD (mName 3) (mName 5)) (mCons (mCall 2 mf_fraction_times (mCons (mName 4) (mCons (mName 6) (mNil)))) (mNil)))) [5, 6]) = pure ((timesOne e B).map en) := by
      rw [lcM_of en (fun f => en (e.1 + f.1, e.2 * f.2)) fun f hf => ?_]
      · unfold timesOne; rw [List.map_map]; rfl
      · have t := times_ok (hA e (hL e List.mem_cons_self)) (hB f hf)
        have s2 : ∀ a b : PyData, sz [a, b] = some [a, b] := fun _ _ => rfl
        have ad : ∀ i j : Int, addD (.int i) (.int j) = some (.int (i + j)) := fun _ _ => rfl
        unfold lcF en
        generalize encP B = a at *
        simp only [mSeq, mIfS, mRet, mRetN, mPass, mOrT, mAndT, mNotT, mAsB, mIsi, mName, mOwn, mC, mOp, mOp3, mCl, mCons, mNil, mFrz, mFrzD, mSeqI, mCall, mAndV, mOrV, mNotV, mIfE, mTup, mLst, mSet, mSetF, mSetD, mPar, mUn, mUn', mCut, mP, mNoP, mIsN, mIsNot, mRng, mKeys, mYes, gSet, gTupD, gsCons, gsNil, mFz, mDrop, mAsg, mAppend, ev0, frzAt, wipeE, rdV_vl, rdB_vl, rdB_ol, rdB_od, asB_b, asI_i, seqD_l, seqD_t, lenI1, lenI2, lenI3, lft_some, pure_bind, getE0, getES, List.set_cons_zero, List.set_cons_succ, List.map_cons, List.map_nil, List.cons_append, List.nil_append, List.replicate_succ, List.replicate_zero, List.append_nil, List.length_cons, List.length_nil, if_true, if_false, ite_true, ite_false, Bool.false_eq_true, reduceIte, Bool.not_true, Bool.not_false, Nat.reduceAdd, Nat.reduceSub, List.zip_cons_cons, List.zip_nil_right, List.foldl_cons, List.foldl_nil, t, s2, ad]
    obtain ⟨z3, z4, h2⟩ := ptimes_loop hA hB hl x0 L (D ++ (timesOne e B).map en) (.vl (.int e.1)) (.vl (fr e.2)) y5 y6 (fun x hx => hL x (List.mem_cons_of_mem _ hx)) (by unfold timesOne; rw [List.length_append, List.length_map, List.length_map]; omega) hb
    refine ⟨z3, z4, ?_⟩
    have e2 : sz (B.map en) = some (B.map en) := sz_ok (by rw [List.length_map]; omega)
    have e3 : szI (D.length + ((timesOne e B).map en).length) (D ++ (timesOne e B).map en) = some (D ++ (timesOne e B).map en) := if_pos (by unfold timesOne; rw [List.length_map, List.length_map]; omega)
    have ea : D ++ (timesAll (e :: L) B).map en = D ++ (timesOne e B).map en ++ (timesAll L B).map en := by
      show D ++ (timesOne e B ++ timesAll L B).map en = _
      rw [List.map_append, List.append_assoc]
    rw [ea, List.map_cons]
    unfold DL.forM
    refine Eq.trans (b := DL.forM (L.map en) _ [x0, .vl (encP B), .ol (D ++ (timesOne e B).map en), .vl (.int e.1), .vl (fr e.2), y5, y6]) ?_ h2
    have o1 : ∀ a b c d f g : Sl, ∀ D : List PyData, olAt [a, b, .ol D, c, d, f, g] 2 = some D := fun _ _ _ _ _ _ _ => rfl
    have x1 : ∀ es, extD D (.list es) = szI (D.length + es.length) (D ++ es) := fun _ => rfl
    unfold en encP at h1 ⊢
    generalize (timesOne e B).map (fun e => PyData.tuple [PyData.int e.1, fr e.2]) = tm at *
    generalize B.map (fun e => PyData.tuple [PyData.int e.1, fr e.2]) = b at *
    simp only [mSeq, mIfS, mRet, mRetN, mPass, mOrT, mAndT, mNotT, mAsB, mIsi, mName, mOwn, mC, mOp, mOp3, mCl, mCons, mNil, mFrz, mFrzD, mSeqI, mCall, mAndV, mOrV, mNotV, mIfE, mTup, mLst, mSet, mSetF, mSetD, mPar, mUn, mUn', mCut, mP, mNoP, mIsN, mIsNot, mRng, mKeys, mYes, gSet, gTupD, gsCons, gsNil, mFz, mDrop, mAsg, mAppend, ev0, frzAt, wipeE, rdV_vl, rdB_vl, rdB_ol, rdB_od, asB_b, asI_i, seqD_l, seqD_t, lenI1, lenI2, lenI3, lft_some, pure_bind, getE0, getES, List.set_cons_zero, List.set_cons_succ, List.map_cons, List.map_nil, List.cons_append, List.nil_append, List.replicate_succ, List.replicate_zero, List.append_nil, List.length_cons, List.length_nil, if_true, if_false, ite_true, ite_false, Bool.false_eq_true, reduceIte, Bool.not_true, Bool.not_false, Nat.reduceAdd, Nat.reduceSub, List.zip_cons_cons, List.zip_nil_right, List.foldl_cons, List.foldl_nil, mExtend, mLc, o1, e2, h1, x1, e3]
theorem ptimes_ok (hA : ∀ e ∈ A, Bg e.2) (hB : ∀ e ∈ B, Bg e.2) (hl : A.length * B.length ≤ 60) (hb : B.length ≤ 60) (h : Put N k (timesAll A B) P) : mf_poly_times [encP A, encP B] = pure (encP P) := by
  refine fn_rt ?_
  obtain ⟨z3, z4, h1⟩ := ptimes_loop hA hB hl (.vl (encP A)) A [] .no .no .no .no (fun _ h => h) (by rw [List.length_nil]; omega) hb
  rw [List.nil_append] at h1
  have ho := h.of
  show m_poly_times [.vl (encP A), .vl (encP B), .no, .no, .no, .no, .no] = _
  unfold m_poly_times
  rw [seq_nx (ρ' := [.vl (encP A), .vl (encP B), .ol [], .no, .no, .no, .no]) rfl, seq_nx (for_ok (ds := A.map en) rfl h1)]
  generalize encP A = a at *
  generalize encP B = b at *
  generalize encP P = p at *
  generalize (timesAll A B).map en = t at *
  have f1 : frzAt 2 [.vl a, .vl b, .ol t, z3, z4, .no, .no] = [.vl a, .vl b, .vl (.list t), z3, z4, .no, .no] := rfl
  simp only [mSeq, mIfS, mRet, mRetN, mPass, mOrT, mAndT, mNotT, mAsB, mIsi, mName, mOwn, mC, mOp, mOp3, mCl, mCons, mNil, mFrz, mFrzD, mSeqI, mCall, mAndV, mOrV, mNotV, mIfE, mTup, mLst, mSet, mSetF, mSetD, mPar, mUn, mUn', mCut, mP, mNoP, mIsN, mIsNot, mRng, mKeys, mYes, gSet, gTupD, gsCons, gsNil, mFz, mDrop, mAsg, mAppend, ev0, frzAt, wipeE, rdV_vl, rdB_vl, rdB_ol, rdB_od, asB_b, asI_i, seqD_l, seqD_t, lenI1, lenI2, lenI3, lft_some, pure_bind, getE0, getES, List.set_cons_zero, List.set_cons_succ, List.map_cons, List.map_nil, List.cons_append, List.nil_append, List.replicate_succ, List.replicate_zero, List.append_nil, List.length_cons, List.length_nil, if_true, if_false, ite_true, ite_false, Bool.false_eq_true, reduceIte, Bool.not_true, Bool.not_false, Nat.reduceAdd, Nat.reduceSub, List.zip_cons_cons, List.zip_nil_right, List.foldl_cons, List.foldl_nil, mFz, f1, ho]
end
end K30
end

section
set_option Elab.async false
set_option linter.all false
set_option maxRecDepth 100000
set_option maxHeartbeats 1000000
namespace K30
open PySem PySem.Spec PyProof.Rows L2 DL PL
theorem fr_nat (m : Nat) : fr (m : Rat) = .tuple [.int (m : Nat), .int 1] := by
  unfold fr
  rw [Rat.num_natCast, Rat.den_natCast]; rfl
theorem inv_nat {m : Nat} (h : 0 < m) : (m : Rat)⁻¹ = Rat.normalize 1 m (by omega) := by
  rw [Rat.inv_def, Rat.num_natCast, Rat.den_natCast, Rat.divInt_ofNat, Rat.mkRat_def, dif_neg (by omega)]
  rfl
theorem fr_inv {m : Nat} (h : 0 < m) : fr ((m : Rat)⁻¹) = .tuple [.int 1, .int (m : Nat)] := by
  rw [inv_nat h, ← fracD_fr]
  unfold fracD
  have e : Nat.gcd (1 : Int).natAbs ((m : Int)).natAbs = 1 := Nat.gcd_one_left _
  rw [e]
  simp
theorem zp_pos (s n : Nat) : (s : Rat) ^ ((n : Nat) : Int) = ((s ^ n : Nat) : Rat) := by
  rw [Rat.zpow_natCast, Rat.natCast_pow]
theorem zp_neg (s n : Nat) : (s : Rat) ^ (-((n : Nat) : Int)) = (((s ^ n : Nat) : Rat))⁻¹ := by
  rw [Rat.zpow_neg, zp_pos]
theorem q_nat (m n : Nat) (h : m < 2 ^ n) : Q 1 n (m : Rat) := ⟨by rw [Rat.den_natCast]; exact Nat.dvd_refl 1, by rw [Rat.num_natCast]; exact h⟩
theorem q_inv (m n : Nat) (h : 0 < m) (h1 : 0 < n) : Q m n ((m : Rat)⁻¹) := by
  have f := fr_inv h
  unfold fr at f
  injection f with f
  injection f with f1 f2
  injection f2 with f2 _
  injection f1 with f1
  injection f2 with f2
  have f2' : ((m : Rat)⁻¹).den = m := by omega
  exact ⟨by rw [f2']; exact Nat.dvd_refl _, by rw [f1]; exact Nat.one_lt_two_pow (by omega)⟩
/-! powers told -/
theorem wp_loop {s : Nat} (hs : s < 2 ^ 30) (x1 : Sl) : ∀ (ds : List PyData) (acc : Nat) (y : Sl), ∃ y', DL.forM ds (fun d ρ => do let ρ' ← gSet 3 d ρ; mSet 2 (mOp mulD (mName 2) (mName 0)) ρ') [.vl (.int (s : Nat)), x1, .vl (.int (acc : Nat)), y] = pure (.nx [.vl (.int (s : Nat)), x1, .vl (.int ((acc * s ^ ds.length : Nat) : Int)), y'])
  | [], acc, y => ⟨y, by show pure _ = _; rw [List.length_nil, Nat.pow_zero, Nat.mul_one]⟩
  | d :: ds, acc, y => by
    have m : mulD (.int (acc : Nat)) (.int (s : Nat)) = some (.int ((acc * s : Nat) : Int)) := by
      rw [mulD_ok (.inl (by rw [Int.natAbs_natCast]; omega)), Int.natCast_mul]
    obtain ⟨y', h⟩ := wp_loop hs x1 ds (acc * s) (.vl d)
    refine ⟨y', ?_⟩
    rw [List.length_cons, Nat.pow_succ, Nat.mul_comm (s ^ ds.length), ← Nat.mul_assoc, ← h]
    conv => lhs; unfold DL.forM
    simp only [mSeq, mIfS, mRet, mRetN, mPass, mOrT, mAndT, mNotT, mAsB, mIsi, mName, mOwn, mC, mOp, mOp3, mCl, mCons, mNil, mFrz, mFrzD, mSeqI, mCall, mAndV, mOrV, mNotV, mIfE, mTup, mLst, mSet, mSetF, mSetD, mPar, mUn, mUn', mCut, mP, mNoP, mIsN, mIsNot, mRng, mKeys, mYes, gSet, gTupD, gsCons, gsNil, mFz, mDrop, mAsg, mAppend, ev0, frzAt, wipeE, rdV_vl, rdB_vl, rdB_ol, rdB_od, asB_b, asI_i, seqD_l, seqD_t, lenI1, lenI2, lenI3, lft_some, pure_bind, getE0, getES, List.set_cons_zero, List.set_cons_succ, List.map_cons, List.map_nil, List.cons_append, List.nil_append, List.replicate_succ, List.replicate_zero, List.append_nil, List.length_cons, List.length_nil, if_true, if_false, ite_true, ite_false, Bool.false_eq_true, reduceIte, Bool.not_true, Bool.not_false, Nat.reduceAdd, Nat.reduceSub, List.zip_cons_cons, List.zip_nil_right, List.foldl_cons, List.foldl_nil, m]
theorem wpow_ok {s n : Nat} (hs : s < 2 ^ 30) (hn : n ≤ 1000) : mf_whole_power [.int (s : Nat), .int (n : Nat)] = pure (.int ((s ^ n : Nat) : Int)) := by
  refine fn_rt ?_
  obtain ⟨y', h⟩ := wp_loop hs (.vl (.int (n : Nat))) (rngD 0 n) 1 .no
  have hl : (rngD 0 n).length = n := by unfold rngD; rw [List.length_map, List.length_range]
  rw [hl, Nat.one_mul, show ((1 : Nat) : Int) = 1 from rfl] at h
  have hr : rng1D [.int (n : Nat)] = some (rngD 0 n) := by
    rw [rng1D_ok (by omega) (by omega)]; rfl
  show m_whole_power [.vl (.int (s : Nat)), .vl (.int (n : Nat)), .no, .no] = _
  unfold m_whole_power
  rw [seq_nx (ρ' := [.vl (.int (s : Nat)), .vl (.int (n : Nat)), .vl (.int 1), .no]) rfl, seq_nx (for_ok (ds := rngD 0 n) ?_ h)]
  · rfl
  · simp only [mSeq, mIfS, mRet, mRetN, mPass, mOrT, mAndT, mNotT, mAsB, mIsi, mName, mOwn, mC, mOp, mOp3, mCl, mCons, mNil, mFrz, mFrzD, mSeqI, mCall, mAndV, mOrV, mNotV, mIfE, mTup, mLst, mSet, mSetF, mSetD, mPar, mUn, mUn', mCut, mP, mNoP, mIsN, mIsNot, mRng, mKeys, mYes, gSet, gTupD, gsCons, gsNil, mFz, mDrop, mAsg, mAppend, ev0, frzAt, wipeE, rdV_vl, rdB_vl, rdB_ol, rdB_od, asB_b, asI_i, seqD_l, seqD_t, lenI1, lenI2, lenI3, lft_some, pure_bind, getE0, getES, List.set_cons_zero, List.set_cons_succ, List.map_cons, List.map_nil, List.cons_append, List.nil_append, List.replicate_succ, List.replicate_zero, List.append_nil, List.length_cons, List.length_nil, if_true, if_false, ite_true, ite_false, Bool.false_eq_true, reduceIte, Bool.not_true, Bool.not_false, Nat.reduceAdd, Nat.reduceSub, List.zip_cons_cons, List.zip_nil_right, List.foldl_cons, List.foldl_nil, hr]
/-- a poly, a place: what is known of sizes -/
structure At (D k : Nat) (P : Po) (s : Nat) : Prop where
  D0 : 0 < D
  D1 : D < 2 ^ 60
  s0 : 0 < s
  s1 : s < 2 ^ 10
  k1 : k ≤ 370000
  k0 : 0 < k
  len : P.length ≤ 60
  q : ∀ e ∈ P, Q D k e.2
  r : ∀ e ∈ P, -20 ≤ e.1 ∧ e.1 ≤ 20
theorem pow_lt {s n : Nat} (hs : s < 2 ^ 10) (hn : n ≤ 20) : s ^ n < 2 ^ 301 := by
  have h1 : s ^ n ≤ (2 ^ 10) ^ n := Nat.pow_le_pow_left (by omega) n
  rw [← Nat.pow_mul] at h1
  exact Nat.lt_of_le_of_lt h1 (Nat.pow_lt_pow_right (by decide) (by omega))
section
variable {D k s : Nat} {P : Po}
theorem At.N0 (h : At D k P s) : 0 < D * s ^ 20 := Nat.mul_pos h.D0 (Nat.pow_pos h.s0)
theorem At.N1 (h : At D k P s) : D * s ^ 20 < 2 ^ 400 := by
  have h1 : s ^ 20 ≤ (2 ^ 10) ^ 20 := Nat.pow_le_pow_left (by have := h.s1; omega) 20
  rw [← Nat.pow_mul] at h1
  have h2 : D * s ^ 20 ≤ 2 ^ 60 * 2 ^ (10 * 20) := Nat.mul_le_mul (by have := h.D1; omega) h1
  rw [← Nat.pow_add] at h2
  exact Nat.lt_of_le_of_lt h2 (Nat.pow_lt_pow_right (by decide) (by decide))
theorem q_zp (h : At D k P s) {n : Nat} (hn : n ≤ 20) : Q (s ^ 20) 301 ((s : Rat) ^ ((n : Nat) : Int)) ∧ Q (s ^ 20) 301 ((s : Rat) ^ (-((n : Nat) : Int))) := by
  rw [zp_pos, zp_neg]
  have h0 : 0 < s ^ n := Nat.pow_pos h.s0
  exact ⟨(q_nat _ 301 (pow_lt h.s1 hn)).up (Nat.one_dvd _), (q_inv _ 301 h0 (by decide)).up (Nat.pow_dvd_pow s hn)⟩
theorem At.pw (h : At D k P s) {i : Int} (hi : -20 ≤ i ∧ i ≤ 20) : Q (s ^ 20) 301 ((s : Rat) ^ i) := by
  by_cases z : 0 ≤ i
  · have := (q_zp h (n := i.toNat) (by omega)).1
    rwa [show ((i.toNat : Nat) : Int) = i by omega] at this
  · have := (q_zp h (n := (-i).toNat) (by omega)).2
    rwa [show -(((-i).toNat : Nat) : Int) = i by omega] at this
theorem At.term (h : At D k P s) {e : Int × Rat} (he : e ∈ P) {i : Int} (hi : -20 ≤ i ∧ i ≤ 20) : Q (D * s ^ 20) (k + 301) (e.2 * (s : Rat) ^ i) := (h.q e he).mul (h.pw hi)
theorem At.bg (h : At D k P s) {e : Int × Rat} (he : e ∈ P) {i : Int} (hi : -20 ≤ i ∧ i ≤ 20) : Bg (e.2 * (s : Rat) ^ i) := q_bg (h.term he hi) h.N0 h.N1 (by have := h.k1; omega) (by omega)
theorem At.bgc (h : At D k P s) {e : Int × Rat} (he : e ∈ P) : Bg e.2 := q_bg (h.q e he) h.D0 (Nat.lt_trans h.D1 (Nat.pow_lt_pow_right (by decide) (by decide))) (by have := h.k1; omega) h.k0
theorem At.bgp (h : At D k P s) {i : Int} (hi : -20 ≤ i ∧ i ≤ 20) : Bg ((s : Rat) ^ i) := q_bg (h.pw hi) (Nat.pow_pos h.s0) (Nat.lt_trans (pow_lt h.s1 (Nat.le_refl 20)) (Nat.pow_lt_pow_right (by decide) (by decide))) (by decide) (by decide)
def atP : PyData → Ev → M Fl := fun d ρ => do let ρ' ← gTupD 2 (gsCons (gSet 3) (gsCons (gSet 4) (gsNil))) d ρ; (mSeq (mSet 5 (mIfE (mAsB (mOp geD (mName 3) (mC (.int 0)))) (mTup (mCons (mCall 2 mf_whole_power (mCons (mName 1) (mCons (mName 3) (mNil)))) (mCons (mC (.int 1)) (mNil)))) (mTup (mCons (mC (.int 1)) (mCons (mCall 2 mf_whole_power (mCons (mName 1) (mCons (mUn negD (mName 3)) (mNil)))) (mNil)))))) (mSet 2 (mCall 2 mf_fraction_sum (mCons (mName 2) (mCons (mCall 2 mf_fraction_times (mCons (mName 4) (mCons (mName 5) (mNil)))) (mNil)))))) ρ'
def inL : Ev → M Fl := mFor (mRng rng1D (mCons (mCl absD (mCons (mName 3) (mNil))) (mNil))) (gSet 5) (mSet 4 (mCall 2 mf_law_by (mCons (mName 4) (mCons (mIfE (mAsB (mOp gtD (mName 3) (mC (.int 0)))) (mTup (mCons (mName 1) (mCons (mC (.int 1)) (mNil)))) (mTup (mCons (mC (.int 1)) (mCons (mName 1) (mNil))))) (mNil)))))
def atL : PyData → Ev → M Fl := fun d ρ => do let ρ' ← gTupD 2 (gsCons (gSet 3) (gsCons (gSet 4) (gsNil))) d ρ; (mSeq inL (mSet 2 (mCall 2 mf_law_plus (mCons (mName 2) (mCons (mName 4) (mNil)))))) ρ'
theorem geD_int (i j : Int) : geD (.int i) (.int j) = some (.bool (decide (j ≤ i))) := rfl
theorem atP_ok (h : At D k P s) {e : Int × Rat} (he : e ∈ P) {t : Rat} (ht : Bg t) (x0 y3 y4 y5 : Sl) :
    ∃ z3 z4 z5, atP (en e) [x0, .vl (.int (s : Nat)), .vl (fr t), y3, y4, y5] = pure (.nx [x0, .vl (.int (s : Nat)), .vl (fr (t + e.2 * (s : Rat) ^ e.1)), z3, z4, z5]) := by
  have hr := h.r e he
  have t1 := times_ok (h.bgc he) (h.bgp hr)
  have t2 := sum_ok ht (h.bg he hr)
  have s2 : ∀ a b : PyData, sz [a, b] = some [a, b] := fun _ _ => rfl
  refine ⟨.vl (.int e.1), .vl (fr e.2), .vl (fr ((s : Rat) ^ e.1)), ?_⟩
  by_cases z : 0 ≤ e.1
  · have w := wpow_ok (s := s) (n := e.1.toNat) (Nat.lt_trans h.s1 (by decide)) (by omega)
    have ei : ((e.1.toNat : Nat) : Int) = e.1 := by omega
    rw [ei] at w
    have f : (PyData.tuple [.int ((s ^ e.1.toNat : Nat) : Int), .int 1]) = fr ((s : Rat) ^ e.1) := by
      rw [← fr_nat, ← zp_pos, ei]
    have g : geD (.int e.1) (.int 0) = some (.bool true) := by rw [geD_int, decide_eq_true z]
    unfold atP en
    simp only [mSeq, mIfS, mRet, mRetN, mPass, mOrT, mAndT, mNotT, mAsB, mIsi, mName, mOwn, mC, mOp, mOp3, mCl, mCons, mNil, mFrz, mFrzD, mSeqI, mCall, mAndV, mOrV, mNotV, mIfE, mTup, mLst, mSet, mSetF, mSetD, mPar, mUn, mUn', mCut, mP, mNoP, mIsN, mIsNot, mRng, mKeys, mYes, gSet, gTupD, gsCons, gsNil, mFz, mDrop, mAsg, mAppend, ev0, frzAt, wipeE, rdV_vl, rdB_vl, rdB_ol, rdB_od, asB_b, asI_i, seqD_l, seqD_t, lenI1, lenI2, lenI3, lft_some, pure_bind, getE0, getES, List.set_cons_zero, List.set_cons_succ, List.map_cons, List.map_nil, List.cons_append, List.nil_append, List.replicate_succ, List.replicate_zero, List.append_nil, List.length_cons, List.length_nil, if_true, if_false, ite_true, ite_false, Bool.false_eq_true, reduceIte, Bool.not_true, Bool.not_false, Nat.reduceAdd, Nat.reduceSub, List.zip_cons_cons, List.zip_nil_right, List.foldl_cons, List.foldl_nil, g, w, s2, f, t1, t2]
  · have w := wpow_ok (s := s) (n := (-e.1).toNat) (Nat.lt_trans h.s1 (by decide)) (by omega)
    have ei : (((-e.1).toNat : Nat) : Int) = -e.1 := by omega
    rw [ei] at w
    have f : (PyData.tuple [.int 1, .int ((s ^ (-e.1).toNat : Nat) : Int)]) = fr ((s : Rat) ^ e.1) := by
      rw [← fr_inv (Nat.pow_pos h.s0), ← zp_neg, ei, Int.neg_neg]
    have g : geD (.int e.1) (.int 0) = some (.bool false) := by rw [geD_int, decide_eq_false z]
    have n1 : negD (.int e.1) = some (.int (-e.1)) := rfl
    unfold atP en
    simp only [mSeq, mIfS, mRet, mRetN, mPass, mOrT, mAndT, mNotT, mAsB, mIsi, mName, mOwn, mC, mOp, mOp3, mCl, mCons, mNil, mFrz, mFrzD, mSeqI, mCall, mAndV, mOrV, mNotV, mIfE, mTup, mLst, mSet, mSetF, mSetD, mPar, mUn, mUn', mCut, mP, mNoP, mIsN, mIsNot, mRng, mKeys, mYes, gSet, gTupD, gsCons, gsNil, mFz, mDrop, mAsg, mAppend, ev0, frzAt, wipeE, rdV_vl, rdB_vl, rdB_ol, rdB_od, asB_b, asI_i, seqD_l, seqD_t, lenI1, lenI2, lenI3, lft_some, pure_bind, getE0, getES, List.set_cons_zero, List.set_cons_succ, List.map_cons, List.map_nil, List.cons_append, List.nil_append, List.replicate_succ, List.replicate_zero, List.append_nil, List.length_cons, List.length_nil, if_true, if_false, ite_true, ite_false, Bool.false_eq_true, reduceIte, Bool.not_true, Bool.not_false, Nat.reduceAdd, Nat.reduceSub, List.zip_cons_cons, List.zip_nil_right, List.foldl_cons, List.foldl_nil, g, n1, w, s2, f, t1, t2]
theorem in_loop {b c : Rat} (hb : Bg b) {i : Int} {sd : PyData} (hsd : (if 0 < i then PyData.tuple [sd, .int 1] else .tuple [.int 1, sd]) = fr b) (x0 x2 : Sl) : ∀ (ds : List PyData) (c : Rat) (y : Sl), (∀ j ≤ ds.length, Bg (c * b ^ j)) →
    ∃ y', DL.forM ds (fun d ρ => do let ρ' ← gSet 5 d ρ; mSet 4 (mCall 2 mf_law_by (mCons (mName 4) (mCons (mIfE (mAsB (mOp gtD (mName 3) (mC (.int 0)))) (mTup (mCons (mName 1) (mCons (mC (.int 1)) (mNil)))) (mTup (mCons (mC (.int 1)) (mCons (mName 1) (mNil))))) (mNil)))) ρ') [x0, .vl sd, x2, .vl (.int i), .vl (fr c), y] = pure (.nx [x0, .vl sd, x2, .vl (.int i), .vl (fr (c * b ^ ds.length)), y'])
  | [], c, y, _ => ⟨y, by rw [List.length_nil, Rat.pow_zero, Rat.mul_one]; rfl⟩
  | d :: ds, c, y, hB => by
    have hc : Bg c := by have := hB 0 (Nat.zero_le _); rwa [Rat.pow_zero, Rat.mul_one] at this
    have t := by_ok hc hb
    have s2 : ∀ a b : PyData, sz [a, b] = some [a, b] := fun _ _ => rfl
    obtain ⟨y', h⟩ := in_loop (c := c) hb hsd x0 x2 ds (c * b) (.vl d) fun j hj => by
      have := hB (j + 1) (by rw [List.length_cons]; omega)
      rwa [Rat.pow_succ, Rat.mul_comm (b ^ j), ← Rat.mul_assoc] at this
    refine ⟨y', ?_⟩
    have e : c * b ^ (d :: ds).length = c * b * b ^ ds.length := by rw [List.length_cons, Rat.pow_succ, Rat.mul_comm (b ^ ds.length), ← Rat.mul_assoc]
    rw [e, ← h]
    conv => lhs; unfold DL.forM
    by_cases z : 0 < i
    · rw [if_pos z] at hsd
      have g : gtD (.int i) (.int 0) = some (.bool true) := by rw [gtD_int, decide_eq_true z]
      simp only [mSeq, mIfS, mRet, mRetN, mPass, mOrT, mAndT, mNotT, mAsB, mIsi, mName, mOwn, mC, mOp, mOp3, mCl, mCons, mNil, mFrz, mFrzD, mSeqI, mCall, mAndV, mOrV, mNotV, mIfE, mTup, mLst, mSet, mSetF, mSetD, mPar, mUn, mUn', mCut, mP, mNoP, mIsN, mIsNot, mRng, mKeys, mYes, gSet, gTupD, gsCons, gsNil, mFz, mDrop, mAsg, mAppend, ev0, frzAt, wipeE, rdV_vl, rdB_vl, rdB_ol, rdB_od, asB_b, asI_i, seqD_l, seqD_t, lenI1, lenI2, lenI3, lft_some, pure_bind, getE0, getES, List.set_cons_zero, List.set_cons_succ, List.map_cons, List.map_nil, List.cons_append, List.nil_append, List.replicate_succ, List.replicate_zero, List.append_nil, List.length_cons, List.length_nil, if_true, if_false, ite_true, ite_false, Bool.false_eq_true, reduceIte, Bool.not_true, Bool.not_false, Nat.reduceAdd, Nat.reduceSub, List.zip_cons_cons, List.zip_nil_right, List.foldl_cons, List.foldl_nil, g, s2, hsd, t]
    · rw [if_neg z] at hsd
      have g : gtD (.int i) (.int 0) = some (.bool false) := by rw [gtD_int, decide_eq_false z]
      simp only [mSeq, mIfS, mRet, mRetN, mPass, mOrT, mAndT, mNotT, mAsB, mIsi, mName, mOwn, mC, mOp, mOp3, mCl, mCons, mNil, mFrz, mFrzD, mSeqI, mCall, mAndV, mOrV, mNotV, mIfE, mTup, mLst, mSet, mSetF, mSetD, mPar, mUn, mUn', mCut, mP, mNoP, mIsN, mIsNot, mRng, mKeys, mYes, gSet, gTupD, gsCons, gsNil, mFz, mDrop, mAsg, mAppend, ev0, frzAt, wipeE, rdV_vl, rdB_vl, rdB_ol, rdB_od, asB_b, asI_i, seqD_l, seqD_t, lenI1, lenI2, lenI3, lft_some, pure_bind, getE0, getES, List.set_cons_zero, List.set_cons_succ, List.map_cons, List.map_nil, List.cons_append, List.nil_append, List.replicate_succ, List.replicate_zero, List.append_nil, List.length_cons, List.length_nil, if_true, if_false, ite_true, ite_false, Bool.false_eq_true, reduceIte, Bool.not_true, Bool.not_false, Nat.reduceAdd, Nat.reduceSub, List.zip_cons_cons, List.zip_nil_right, List.foldl_cons, List.foldl_nil, g, s2, hsd, t]
theorem atL_ok (h : At D k P s) {e : Int × Rat} (he : e ∈ P) {t : Rat} (ht : Bg t) (x0 y3 y4 y5 : Sl) :
    ∃ z3 z4 z5, atL (en e) [x0, .vl (.int (s : Nat)), .vl (fr t), y3, y4, y5] = pure (.nx [x0, .vl (.int (s : Nat)), .vl (fr (t + e.2 * (s : Rat) ^ e.1)), z3, z4, z5]) := by
  have hr := h.r e he
  have t2 := plus_ok ht (h.bg he hr)
  have hl : (rngD 0 e.1.natAbs).length = e.1.natAbs := by unfold rngD; rw [List.length_map, List.length_range]
  have hra : rng1D [.int ((e.1.natAbs : Nat) : Int)] = some (rngD 0 e.1.natAbs) := by
    rw [rng1D_ok (by omega) (by omega)]; rfl
  have hab : absD [.int e.1] = some (.int ((e.1.natAbs : Nat) : Int)) := by rw [absD_int, iabs_nat]
  have main : ∃ y', inL [x0, .vl (.int (s : Nat)), .vl (fr t), .vl (.int e.1), .vl (fr e.2), y5] = pure (.nx [x0, .vl (.int (s : Nat)), .vl (fr t), .vl (.int e.1), .vl (fr (e.2 * (s : Rat) ^ e.1)), y']) := by
    have mi : mRng rng1D (mCons (mCl absD (mCons (mName 3) (mNil))) (mNil)) [x0, .vl (.int (s : Nat)), .vl (fr t), .vl (.int e.1), .vl (fr e.2), y5] = pure (rngD 0 e.1.natAbs) := by
      generalize rngD 0 e.1.natAbs = rr at hra ⊢
      simp only [mSeq, mIfS, mRet, mRetN, mPass, mOrT, mAndT, mNotT, mAsB, mIsi, mName, mOwn, mC, mOp, mOp3, mCl, mCons, mNil, mFrz, mFrzD, mSeqI, mCall, mAndV, mOrV, mNotV, mIfE, mTup, mLst, mSet, mSetF, mSetD, mPar, mUn, mUn', mCut, mP, mNoP, mIsN, mIsNot, mRng, mKeys, mYes, gSet, gTupD, gsCons, gsNil, mFz, mDrop, mAsg, mAppend, ev0, frzAt, wipeE, rdV_vl, rdB_vl, rdB_ol, rdB_od, asB_b, asI_i, seqD_l, seqD_t, lenI1, lenI2, lenI3, lft_some, pure_bind, getE0, getES, List.set_cons_zero, List.set_cons_succ, List.map_cons, List.map_nil, List.cons_append, List.nil_append, List.replicate_succ, List.replicate_zero, List.append_nil, List.length_cons, List.length_nil, if_true, if_false, ite_true, ite_false, Bool.false_eq_true, reduceIte, Bool.not_true, Bool.not_false, Nat.reduceAdd, Nat.reduceSub, List.zip_cons_cons, List.zip_nil_right, List.foldl_cons, List.foldl_nil, hab, hra]
    by_cases z : 0 < e.1
    · have hsd : (if 0 < e.1 then PyData.tuple [.int (s : Nat), .int 1] else .tuple [.int 1, .int (s : Nat)]) = fr (s : Rat) := by rw [if_pos z, fr_nat]
      have hb := h.bgp (i := 1) ⟨by decide, by decide⟩
      rw [Rat.zpow_one] at hb
      have pe : ∀ j : Nat, ((s : Rat)) ^ j = (s : Rat) ^ ((j : Nat) : Int) := fun j => (Rat.zpow_natCast _ _).symm
      obtain ⟨y', f⟩ := in_loop (c := e.2) hb hsd x0 (.vl (fr t)) (rngD 0 e.1.natAbs) e.2 y5 fun j hj => by
        rw [pe]; exact h.bg he (by omega)
      rw [hl, pe, show ((e.1.natAbs : Nat) : Int) = e.1 by omega] at f
      exact ⟨y', for_ok mi f⟩
    · have hsd : (if 0 < e.1 then PyData.tuple [.int (s : Nat), .int 1] else .tuple [.int 1, .int (s : Nat)]) = fr ((s : Rat)⁻¹) := by rw [if_neg z, fr_inv h.s0]
      have hb := h.bgp (i := -1) ⟨by decide, by decide⟩
      rw [Rat.zpow_neg, Rat.zpow_one] at hb
      have pe : ∀ j : Nat, ((s : Rat)⁻¹) ^ j = (s : Rat) ^ (-((j : Nat) : Int)) := fun j => by
        rw [Rat.zpow_neg, Rat.zpow_natCast]
        induction j with
        | zero => rw [Rat.pow_zero, Rat.pow_zero]; decide +kernel
        | succ j ih => rw [Rat.pow_succ, Rat.pow_succ, ih, Rat.inv_mul_rev, Rat.mul_comm]
      obtain ⟨y', f⟩ := in_loop (c := e.2) hb hsd x0 (.vl (fr t)) (rngD 0 e.1.natAbs) e.2 y5 fun j hj => by
        rw [pe]; exact h.bg he (by omega)
      rw [hl, pe, show -((e.1.natAbs : Nat) : Int) = e.1 by omega] at f
      exact ⟨y', for_ok mi f⟩
  obtain ⟨y', hm⟩ := main
  refine ⟨.vl (.int e.1), .vl (fr (e.2 * (s : Rat) ^ e.1)), y', ?_⟩
  unfold atL en
  show (mSeq inL _ [x0, .vl (.int (s : Nat)), .vl (fr t), .vl (.int e.1), .vl (fr e.2), y5]) = _
  rw [seq_nx hm]
  simp only [mSeq, mIfS, mRet, mRetN, mPass, mOrT, mAndT, mNotT, mAsB, mIsi, mName, mOwn, mC, mOp, mOp3, mCl, mCons, mNil, mFrz, mFrzD, mSeqI, mCall, mAndV, mOrV, mNotV, mIfE, mTup, mLst, mSet, mSetF, mSetD, mPar, mUn, mUn', mCut, mP, mNoP, mIsN, mIsNot, mRng, mKeys, mYes, gSet, gTupD, gsCons, gsNil, mFz, mDrop, mAsg, mAppend, ev0, frzAt, wipeE, rdV_vl, rdB_vl, rdB_ol, rdB_od, asB_b, asI_i, seqD_l, seqD_t, lenI1, lenI2, lenI3, lft_some, pure_bind, getE0, getES, List.set_cons_zero, List.set_cons_succ, List.map_cons, List.map_nil, List.cons_append, List.nil_append, List.replicate_succ, List.replicate_zero, List.append_nil, List.length_cons, List.length_nil, if_true, if_false, ite_true, ite_false, Bool.false_eq_true, reduceIte, Bool.not_true, Bool.not_false, Nat.reduceAdd, Nat.reduceSub, List.zip_cons_cons, List.zip_nil_right, List.foldl_cons, List.foldl_nil, t2]
theorem at_loop (h : At D k P s) {f : PyData → Ev → M Fl} (hf : ∀ {e : Int × Rat}, e ∈ P → ∀ {t : Rat}, Bg t → ∀ x0 y3 y4 y5 : Sl, ∃ z3 z4 z5, f (en e) [x0, .vl (.int (s : Nat)), .vl (fr t), y3, y4, y5] = pure (.nx [x0, .vl (.int (s : Nat)), .vl (fr (t + e.2 * (s : Rat) ^ e.1)), z3, z4, z5])) (x0 : Sl) :
    ∀ (L : Po) (j : Nat) (t : Rat) (y3 y4 y5 : Sl), (∀ e ∈ L, e ∈ P) → Q (D * s ^ 20) (k + 301 + 401 * j) t → j + L.length ≤ 60 →
      ∃ z3 z4 z5, Q (D * s ^ 20) (k + 301 + 401 * (j + L.length)) (t + ev L s) ∧ DL.forM (L.map en) f [x0, .vl (.int (s : Nat)), .vl (fr t), y3, y4, y5] = pure (.nx [x0, .vl (.int (s : Nat)), .vl (fr (t + ev L s)), z3, z4, z5])
  | [], j, t, y3, y4, y5, _, hq, _ => by
    have e : t + ev [] (s : Rat) = t := by show t + 0 = t; grind
    rw [e]
    exact ⟨y3, y4, y5, hq, rfl⟩
  | e :: L, j, t, y3, y4, y5, hL, hq, hj => by
    rw [List.length_cons] at hj
    have hk := h.k1
    have he := hL e List.mem_cons_self
    obtain ⟨z3, z4, z5, h1⟩ := hf he (t := t) (q_bg hq h.N0 h.N1 (by omega) (by omega)) x0 y3 y4 y5
    have hq' : Q (D * s ^ 20) (k + 301 + 401 * (j + 1)) (t + e.2 * (s : Rat) ^ e.1) := (hq.add ((h.term he (h.r e he)).mono (by omega)) h.N0 h.N1).mono (by omega)
    obtain ⟨w3, w4, w5, h2, h3⟩ := at_loop h hf x0 L (j + 1) _ z3 z4 z5 (fun x hx => hL x (List.mem_cons_of_mem _ hx)) hq' (by omega)
    have ee : t + ev (e :: L) (s : Rat) = t + e.2 * (s : Rat) ^ e.1 + ev L s := by show t + (e.2 * (s : Rat) ^ e.1 + ev L s) = _; grind
    rw [ee]
    refine ⟨w3, w4, w5, h2.mono (by rw [List.length_cons]; omega), ?_⟩
    rw [List.map_cons]
    conv => lhs; unfold DL.forM
    rw [h1]
    exact h3
theorem at_ok (h : At D k P s) : mf_poly_at [encP P, .int (s : Nat)] = pure (fr (ev P s)) ∧ mf_law_at [encP P, .int (s : Nat)] = pure (fr (ev P s)) ∧ Q (D * s ^ 20) (k + 301 + 401 * P.length) (ev P s) := by
  have z : (0 : Rat) + ev P s = ev P s := by grind
  have s2 : ∀ a b : PyData, sz [a, b] = some [a, b] := fun _ _ => rfl
  have q0 : Q (D * s ^ 20) (k + 301 + 401 * 0) 0 := Q.zero (by omega)
  obtain ⟨z3, z4, z5, h1, h2⟩ := at_loop h (f := atP) (fun he _ ht x0 y3 y4 y5 => atP_ok h he ht x0 y3 y4 y5) (.vl (encP P)) P 0 0 .no .no .no (fun _ h => h) q0 (by have := h.len; omega)
  obtain ⟨w3, w4, w5, g1, g2⟩ := at_loop h (f := atL) (fun he _ ht x0 y3 y4 y5 => atL_ok h he ht x0 y3 y4 y5) (.vl (encP P)) P 0 0 .no .no .no (fun _ h => h) q0 (by have := h.len; omega)
  rw [z] at h1 h2 g2
  rw [Nat.zero_add] at h1
  rw [fr0] at h2 g2
  refine ⟨fn_rt ?_, fn_rt ?_, h1⟩
  · show m_poly_at [.vl (encP P), .vl (.int (s : Nat)), .no, .no, .no, .no] = _
    unfold m_poly_at
    rw [seq_nx (ρ' := [.vl (encP P), .vl (.int (s : Nat)), .vl (.tuple [.int 0, .int 1]), .no, .no, .no]) rfl, seq_nx (for_ok (ds := P.map en) rfl h2)]
    rfl
  · show m_law_at [.vl (encP P), .vl (.int (s : Nat)), .no, .no, .no, .no] = _
    unfold m_law_at
    unfold atL inL at g2
    rw [seq_nx (ρ' := [.vl (encP P), .vl (.int (s : Nat)), .vl (.tuple [.int 0, .int 1]), .no, .no, .no]) (by simp only [mSeq, mIfS, mRet, mRetN, mPass, mOrT, mAndT, mNotT, mAsB, mIsi, mName, mOwn, mC, mOp, mOp3, mCl, mCons, mNil, mFrz, mFrzD, mSeqI, mCall, mAndV, mOrV, mNotV, mIfE, mTup, mLst, mSet, mSetF, mSetD, mPar, mUn, mUn', mCut, mP, mNoP, mIsN, mIsNot, mRng, mKeys, mYes, gSet, gTupD, gsCons, gsNil, mFz, mDrop, mAsg, mAppend, ev0, frzAt, wipeE, rdV_vl, rdB_vl, rdB_ol, rdB_od, asB_b, asI_i, seqD_l, seqD_t, lenI1, lenI2, lenI3, lft_some, pure_bind, getE0, getES, List.set_cons_zero, List.set_cons_succ, List.map_cons, List.map_nil, List.cons_append, List.nil_append, List.replicate_succ, List.replicate_zero, List.append_nil, List.length_cons, List.length_nil, if_true, if_false, ite_true, ite_false, Bool.false_eq_true, reduceIte, Bool.not_true, Bool.not_false, Nat.reduceAdd, Nat.reduceSub, List.zip_cons_cons, List.zip_nil_right, List.foldl_cons, List.foldl_nil, s2]), seq_nx (for_ok (ds := P.map en) rfl g2)]
    rfl
end
end K30
end

section
set_option Elab.async false
set_option linter.all false
set_option maxRecDepth 100000
set_option maxHeartbeats 1000000
namespace K30
open PySem PySem.Spec PyProof.Rows L2 DL PL
theorem t_forIx {f : PyData → Ev → M Fl} {I : Nat → Ev → Prop} : ∀ (ds : List PyData) {j : Nat} {ρ : Ev}, I j ρ → (∀ j d ρ, I j ρ → Tri (f d ρ) fun fl => ∃ ρ', fl = .nx ρ' ∧ I (j + 1) ρ') → Tri (DL.forM ds f ρ) fun fl => ∃ ρ', fl = .nx ρ' ∧ I (j + ds.length) ρ'
  | [], j, ρ, h, _ => Tri.pure ⟨ρ, rfl, h⟩
  | d :: ds, j, ρ, h, hf => Tri.bind (hf j d ρ h) fun fl ⟨ρ', e, p⟩ => by
    subst e
    have := t_forIx ds p hf
    rw [List.length_cons, show j + (ds.length + 1) = j + 1 + ds.length by omega]
    exact this
/-- a drawn fraction -/
structure Dr (x : Rat) : Prop where
  qq : Q 12 50 x
  nz : x ≠ 0
def qn : List Nat := [1, 1, 2, 3, 12]
def drB (p : Int) (d : Nat) : Bool := decide (d ≠ 0) && decide ((mkRat p d).den ∣ 12) && decide ((mkRat p d).num.natAbs < 2 ^ 50) && decide (mkRat p d ≠ 0)
theorem drB_all : ∀ p ∈ ps, ∀ d ∈ qn, drB p d = true := by decide +kernel
theorem drawn2 : Tri (mf_law_drawn_fraction []) fun d => ∃ q, d = fr q ∧ Dr q := by
  refine t_fn ?_
  show Tri (m_law_drawn_fraction [.src]) _
  unfold m_law_drawn_fraction
  refine t_ret (t_call (t_cons ?_))
  refine (t_callS (Q := fun d => d ∈ ps.map PyData.int) rfl (t_cons (t_frz (t_lst ?_)))).mono ?_
  · refine t_cons (t_c (t_cons (t_un (P := fun d => d = .int 1) (t_c rfl) fun x hx => ?_)))
    subst hx
    refine ⟨.int (-1), rfl, t_cons (t_c (t_cons (t_c (t_cons (t_un (P := fun d => d = .int 7) (t_c rfl) fun x hx => ?_)))))⟩
    subst hx
    refine ⟨.int (-7), rfl, t_cons (t_op (P := fun d => d = .int 10) (Q := fun d => d = .int 12) (t_c rfl) (t_c rfl) fun x y hx hy => ?_)⟩
    subst hx hy
    refine ⟨.int 1000000000000, pow12, t_nil ⟨by decide, t_nil ⟨rfl, ?_⟩⟩⟩
    exact of_ok (by simp) (by decide)
  · intro d hd
    obtain ⟨p, hp, rfl⟩ := List.mem_map.mp hd
    refine t_cons ((t_callS (Q := fun d => d ∈ qn.map fun n => PyData.int (n : Nat)) rfl (t_cons (t_frz (t_lst (t_cons (t_c (t_cons (t_c (t_cons (t_c (t_cons (t_c (t_cons (t_c (t_nil ⟨by decide, t_nil ⟨rfl, of_ok (by simp) (by decide)⟩⟩))))))))))))))).mono ?_)
    intro e he
    obtain ⟨n, hn, rfl⟩ := List.mem_map.mp he
    refine t_nil ⟨rfl, ?_⟩
    have hb := drB_all p hp n hn
    unfold drB at hb
    simp only [Bool.and_eq_true, decide_eq_true_eq] at hb
    obtain ⟨⟨⟨b1, b2⟩, b3⟩, b4⟩ := hb
    have hs : n < 100 := by
      have : ∀ n ∈ qn, n < 100 := by decide
      exact this n hn
    refine Tri.eq (law_fraction_ok (p := p) (q := (n : Nat)) (by omega) (by rw [Int.natAbs_natCast]; exact Nat.lt_of_lt_of_le hs (by decide))) ⟨_, rfl, ?_⟩
    refine ⟨mkRat p n, ?_, ⟨b2, b3⟩, b4⟩
    rw [fracD_fr p n b1, Rat.mkRat_def, dif_neg b1]
/-- a drawn poly -/
structure DP (m : Nat) (A : Po) : Prop where
  can : Can A
  q : ∀ e ∈ A, Q 12 50 e.2
  r : ∀ e ∈ A, -3 ≤ e.1 ∧ e.1 ≤ 5
  len : A.length ≤ m
structure DR (j : Nat) (R : Po) : Prop where
  nd : (R.map (·.1)).Nodup
  d : ∀ e ∈ R, Dr e.2
  r : ∀ e ∈ R, -3 ≤ e.1 ∧ e.1 ≤ 5
  len : R.length ≤ j
theorem DR.put {j : Nat} {R : Po} (h : DR j R) {i : Int} {c : Rat} (hc : Dr c) (hi : -3 ≤ i ∧ i ≤ 5) : DR (j + 1) (putR R i c) := ⟨putR_nodup h.nd, fun e he => (putR_mem e he).elim (h.d e) fun z => by rw [z]; exact hc, fun e he => (putR_mem e he).elim (h.r e) fun z => by rw [z]; exact hi, Nat.le_trans (putR_len _ _ _) (by have := h.len; omega)⟩
theorem poly2 {many : Nat} (h1 : many ≤ 10) : Tri (mf_law_poly [.int (many : Nat)]) fun d => ∃ A, d = encP A ∧ DP many A := by
  refine t_fn ?_
  show Tri (m_law_poly [.src, .vl (.int (many : Nat)), .no, .no, .no]) _
  unfold m_law_poly
  refine t_seq (I := fun ρ => ρ = [.src, .vl (.int (many : Nat)), .od (dd (fd [])), .no, .no]) (t_setD (Tri.pure ⟨_, rfl, rfl⟩)) ?_
  rintro ρ rfl
  refine t_seq (I := fun ρ => ∃ R x y, ρ = [.src, .vl (.int (many : Nat)), .od (dd (fd R)), x, y] ∧ DR many R) ?_ ?_
  · refine Tri.bind (P := fun ds => ds.length ≤ many) (t_rng (P := fun ds => ∃ r : Int, ds = [.int r] ∧ 0 ≤ r ∧ r ≤ many) (t_cons ((t_callS (Q := fun d => ∃ r : Int, d = .int r ∧ 0 ≤ r ∧ r < many + 1) rfl (t_cons (t_op (P := fun d => d = .int (many : Nat)) (Q := fun d => d = .int 1) (t_name rfl rfl) (t_c rfl) fun x y hx hy => ?_))).mono ?_)) fun x hx => ?_) fun ds hds => ?_
    · subst hx hy
      exact ⟨_, rfl, t_nil ⟨rfl, pick_ok (by omega) (by omega)⟩⟩
    · rintro d ⟨r, rfl, h2, h3⟩
      exact t_nil ⟨r, rfl, h2, by omega⟩
    · obtain ⟨r, rfl, h2, h3⟩ := hx
      exact ⟨_, rng1D_ok (by omega) (by omega), by unfold rngD; rw [List.length_map, List.length_range]; omega⟩
    · refine (t_forIx (I := fun j ρ => ∃ R x y, ρ = [.src, .vl (.int (many : Nat)), .od (dd (fd R)), x, y] ∧ DR j R) ds (j := 0) ⟨[], .no, .no, rfl, ⟨List.nodup_nil, (fun e h => nomatch h), (fun e h => nomatch h), Nat.le_refl 0⟩⟩ ?_).mono fun fl ⟨ρ', e, R, x, y, e2, hR⟩ => ⟨ρ', e, R, x, y, e2, ⟨hR.nd, hR.d, hR.r, by have := hR.len; omega⟩⟩
      rintro j d ρ ⟨R, x, y, rfl, hR⟩
      refine Tri.bind (P := fun ρ1 => ρ1 = ([.src, .vl (.int (many : Nat)), .od (dd (fd R)), .vl d, y] : Ev)) (Tri.pure rfl) fun ρ1 e => ?_
      subst e
      show Tri (mDPut 2 _ _ [.src, .vl (.int (many : Nat)), .od (dd (fd R)), .vl d, y]) _
      by_cases hj : R.length ≤ 100
      · refine Tri.bind (t_callS rfl (t_nil ⟨rfl, drawn2⟩)) fun v hv => ?_
        obtain ⟨c, rfl, hc⟩ := hv
        refine Tri.bind (P := (· = dd (fd R))) (Tri.lft (show odAt [.src, .vl (.int (many : Nat)), .od (dd (fd R)), .vl d, y] 2 = some (dd (fd R)) from rfl) rfl) ?_
        rintro _ rfl
        refine Tri.bind (P := fun kd => ∃ i : Int, kd = .int i ∧ -3 ≤ i ∧ i ≤ 5) (t_op (P := fun d => ∃ r : Int, d = .int r ∧ 0 ≤ r ∧ r < 9) (Q := fun d => d = .int 3) (t_callS rfl (t_cons (t_c (t_nil ⟨rfl, pick_ok (by decide) (by decide)⟩)))) (t_c rfl) fun x y hx hy => ?_) ?_
        · obtain ⟨r, rfl, h2, h3⟩ := hx
          subst hy
          exact ⟨_, rfl, r - 3, rfl, by omega, by omega⟩
        · rintro _ ⟨i, rfl, hi⟩
          refine Tri.bind (P := (· = Sum.inl i)) (Tri.lft (show DL.keyOf (.int i) = some (.inl i) from rfl) rfl) ?_
          rintro _ rfl
          refine Tri.bind (P := (· = dd (fd (putR R i c)))) (Tri.lft (show szI (dd (fd R)).length (dput (dd (fd R)) (.inl i) (fr c)) = some (dd (fd (putR R i c))) by rw [dput_fd]; exact if_pos (by unfold fd; rw [List.length_map, List.length_map]; omega)) rfl) ?_
          rintro _ rfl
          exact Tri.pure ⟨_, rfl, putR R i c, _, _, rfl, hR.put hc hi⟩
      · exfalso
        have h5 : R.length ≤ 9 := by
          have := nodup_len (R.map (·.1)) [-3, -2, -1, 0, 1, 2, 3, 4, 5] hR.nd fun x hx => by
            obtain ⟨e, he, rfl⟩ := List.mem_map.mp hx
            have := hR.r e he
            simp only [List.mem_cons, List.not_mem_nil, or_false]
            omega
          simpa using this
        omega
  · rintro ρ ⟨R, x, y, rfl, hR⟩
    have hc := can_of hR.nd (fun e he => (hR.d e he).nz) (sortI_le _) (sortI_perm _)
    have hl := hR.len
    have lS : (sortI (R.map (·.1))).length = R.length := by rw [(sortI_perm _).length_eq, List.length_map]
    refine t_ret (Tri.eq (a := encP ((sortI (R.map (·.1))).map fun i => (i, co R i))) ?_ ⟨_, rfl, _, rfl, ⟨hc.1, fun e he => (hR.d e (hc.2 e he)).qq, fun e he => hR.r e (hc.2 e he), by rw [List.length_map, lS]; exact hl⟩⟩)
    have hsz : sz ((sortI (R.map (·.1))).map PyData.int) = some ((sortI (R.map (·.1))).map PyData.int) := sz_ok (by rw [List.length_map, lS]; omega)
    have hk := sortedDL_ok (X := fd R) (by unfold fd; rw [List.length_map]; omega)
    have ek : (fd R).map (·.1) = R.map (·.1) := by unfold fd; rw [List.map_map]; rfl
    rw [ek] at hk
    have s2 : ∀ a b : PyData, sz [a, b] = some [a, b] := fun _ _ => rfl
    have h1 : ∀ ρ : Ev, ρ = [.src, .vl (.int (many : Nat)), .od (dd (fd R)), x, y] → lcM ((sortI (R.map (·.1))).map PyData.int) (lcF ρ (gSet 4) (mYes) (mTup (mCons (mName 4) (mCons (mOp dgetD (mOwn 2) (mName 4)) (mNil)))) [4]) = pure (((sortI (R.map (·.1))).map fun i => (i, co R i)).map en) := by
      rintro ρ rfl
      rw [lcM_of PyData.int (fun i => en (i, co R i)) fun i hi => ?_]
      · rw [List.map_map]; rfl
      · have g := get_fd hR.nd ((sortI_perm _).mem_iff.mp hi)
        unfold lcF
        generalize dd (fd R) = dR at *
        simp only [mSeq, mIfS, mRet, mRetN, mPass, mOrT, mAndT, mNotT, mAsB, mIsi, mName, mOwn, mC, mOp, mOp3, mCl, mCons, mNil, mFrz, mFrzD, mSeqI, mCall, mAndV, mOrV, mNotV, mIfE, mTup, mLst, mSet, mSetF, mSetD, mPar, mUn, mUn', mCut, mP, mNoP, mIsN, mIsNot, mRng, mKeys, mYes, gSet, gTupD, gsCons, gsNil, mFz, mDrop, mAsg, mAppend, ev0, frzAt, wipeE, rdV_vl, rdB_vl, rdB_ol, rdB_od, asB_b, asI_i, seqD_l, seqD_t, lenI1, lenI2, lenI3, lft_some, pure_bind, getE0, getES, List.set_cons_zero, List.set_cons_succ, List.map_cons, List.map_nil, List.cons_append, List.nil_append, List.replicate_succ, List.replicate_zero, List.append_nil, List.length_cons, List.length_nil, if_true, if_false, ite_true, ite_false, Bool.false_eq_true, reduceIte, Bool.not_true, Bool.not_false, Nat.reduceAdd, Nat.reduceSub, List.zip_cons_cons, List.zip_nil_right, List.foldl_cons, List.foldl_nil, g, s2]
    have h1' := h1 _ rfl
    have ht : tupleD [.list (((sortI (R.map (·.1))).map fun i => (i, co R i)).map en)] = some (encP ((sortI (R.map (·.1))).map fun i => (i, co R i))) := rfl
    generalize encP ((sortI (R.map (·.1))).map fun i => (i, co R i)) = out at ht ⊢
    generalize ((sortI (R.map (·.1))).map fun i => (i, co R i)).map en = o2 at *
    generalize (sortI (R.map (·.1))).map PyData.int = KS at h1' hsz hk
    generalize dd (fd R) = dK at *
    simp only [mSeq, mIfS, mRet, mRetN, mPass, mOrT, mAndT, mNotT, mAsB, mIsi, mName, mOwn, mC, mOp, mOp3, mCl, mCons, mNil, mFrz, mFrzD, mSeqI, mCall, mAndV, mOrV, mNotV, mIfE, mTup, mLst, mSet, mSetF, mSetD, mPar, mUn, mUn', mCut, mP, mNoP, mIsN, mIsNot, mRng, mKeys, mYes, gSet, gTupD, gsCons, gsNil, mFz, mDrop, mAsg, mAppend, ev0, frzAt, wipeE, rdV_vl, rdB_vl, rdB_ol, rdB_od, asB_b, asI_i, seqD_l, seqD_t, lenI1, lenI2, lenI3, lft_some, pure_bind, getE0, getES, List.set_cons_zero, List.set_cons_succ, List.map_cons, List.map_nil, List.cons_append, List.nil_append, List.replicate_succ, List.replicate_zero, List.append_nil, List.length_cons, List.length_nil, if_true, if_false, ite_true, ite_false, Bool.false_eq_true, reduceIte, Bool.not_true, Bool.not_false, Nat.reduceAdd, Nat.reduceSub, List.zip_cons_cons, List.zip_nil_right, List.foldl_cons, List.foldl_nil, mLc, hk, hsz, h1', ht]
end K30
end

section
set_option Elab.async false
set_option linter.all false
set_option maxRecDepth 100000
set_option maxHeartbeats 1000000
namespace K30
open PySem PySem.Spec PyProof.Rows L2 DL PL
/-! what can be shown -/
structure Sh (B n dp : Nat) (d : PyData) : Prop where
  l : d.leavesShort B = true
  s : d.showable = true
  b : d.bulk ≤ n
  d : d.depth ≤ dp
theorem Sh.repr {B n dp : Nat} {d : PyData} (h : Sh B n dp d) (hB : 8 ≤ B) (hn : (B + 2) * n + B ≤ 1000000) (hd : dp ≤ 50) : reprL [d] = some (.str d.shown) := by
  have h2 := PyData.shown_le_bulk B hB d h.l
  have h3 : (B + 2) * d.bulk ≤ (B + 2) * n := Nat.mul_le_mul_left _ h.b
  have h4 := h.d
  show (if d.showable = true ∧ d.shown.length ≤ 1000000 ∧ d.depth ≤ 60 then some (PyData.str d.shown) else none) = _
  rw [if_pos ⟨h.s, by omega, by omega⟩]
theorem sh_all {B n dp : Nat} : ∀ {xs : List PyData}, (∀ x ∈ xs, Sh B n dp x) → PyData.leavesShortAll B xs = true ∧ PyData.showableAll xs = true ∧ PyData.bulkAll xs ≤ (n + 1) * xs.length ∧ PyData.depthAll xs ≤ dp
  | [], _ => ⟨by simp [PyData.leavesShortAll], by simp [PyData.showableAll], by simp [PyData.bulkAll], by simp [PyData.depthAll]⟩
  | x :: xs, h => by
    have h1 := h x List.mem_cons_self
    obtain ⟨a, b, c, d⟩ := sh_all fun y hy => h y (List.mem_cons_of_mem x hy)
    refine ⟨by simp only [PyData.leavesShortAll, h1.l, a, Bool.and_self], by simp only [PyData.showableAll, h1.s, b, Bool.and_self], ?_, ?_⟩
    · simp only [PyData.bulkAll]
      have := h1.b
      rw [List.length_cons, Nat.mul_succ]
      omega
    · simp only [PyData.depthAll]
      have := h1.d
      omega
theorem Sh.lst {B n dp m : Nat} {xs : List PyData} (h : ∀ x ∈ xs, Sh B n dp x) (hm : (n + 1) * xs.length ≤ m) : Sh B m (dp + 1) (.list xs) := by
  obtain ⟨a, b, c, d⟩ := sh_all h
  exact ⟨by simp only [PyData.leavesShort, a], by simp only [PyData.showable, b], by simp only [PyData.bulk]; omega, by simp only [PyData.depth]; omega⟩
theorem Sh.tup {B n dp m : Nat} {xs : List PyData} (h : ∀ x ∈ xs, Sh B n dp x) (hm : (n + 1) * xs.length ≤ m) : Sh B m (dp + 1) (.tuple xs) := by
  obtain ⟨a, b, c, d⟩ := sh_all h
  exact ⟨by simp only [PyData.leavesShort, a], by simp only [PyData.showable, b], by simp only [PyData.bulk]; omega, by simp only [PyData.depth]; omega⟩
theorem Sh.mono {B n dp n' dp' : Nat} {d : PyData} (h : Sh B n dp d) (h1 : n ≤ n') (h2 : dp ≤ dp') : Sh B n' dp' d := ⟨h.l, h.s, Nat.le_trans h.b h1, Nat.le_trans h.d h2⟩
theorem sh_int {B : Nat} {i : Int} {k : Nat} (h : i.natAbs < 2 ^ k) (hk : k ≤ 1900) (k0 : 0 < k) (hB : k + 1 ≤ B) : Sh B 0 0 (.int i) := by
  have hl : i.natAbs.log2 < k := by
    by_cases z : i.natAbs = 0
    · rw [z]; exact k0
    · exact (Nat.log2_lt z).mpr h
  refine ⟨?_, ?_, by simp [PyData.bulk], by simp [PyData.depth]⟩
  · simp only [PyData.leavesShort, decide_eq_true_eq]
    have h2 := int_text_length_le (a := i) (k := k) k0 hl
    have e : (PyData.shown (.int i)).length = (toString i).length := by
      simp only [PyData.shown]
      exact PySem.ofString_length _
    omega
  · simp only [PyData.showable, decide_eq_true_eq]; omega
theorem sh_bool {B : Nat} (b : Bool) : Sh B 0 0 (.bool b) := ⟨by simp [PyData.leavesShort], by simp [PyData.showable], by simp [PyData.bulk], by simp [PyData.depth]⟩
/-- a fraction of at most k bits -/
structure Bt (k : Nat) (q : Rat) : Prop where
  n : q.num.natAbs < 2 ^ k
  d : q.den < 2 ^ k
theorem q_bt {N k m : Nat} {q : Rat} (h : Q N k q) (h0 : 0 < N) (hN : N < 2 ^ m) (hm : m ≤ k) : Bt k q := ⟨h.nm, h.dlt h0 (Nat.lt_of_lt_of_le hN (pow_le hm))⟩
theorem Bt.mono {k m : Nat} {q : Rat} (h : Bt k q) (hm : k ≤ m) : Bt m q := ⟨Nat.lt_of_lt_of_le h.n (pow_le hm), Nat.lt_of_lt_of_le h.d (pow_le hm)⟩
theorem sh_fr {B k : Nat} {q : Rat} (h : Bt k q) (hk : k ≤ 1900) (k0 : 0 < k) (hB : k + 1 ≤ B) : Sh B 2 1 (fr q) := by
  refine Sh.tup (n := 0) (dp := 0) (fun x hx => ?_) (Nat.le_refl 2)
  simp only [List.mem_cons, List.not_mem_nil, or_false] at hx
  rcases hx with rfl | rfl
  · exact sh_int h.n hk k0 hB
  · exact sh_int (by rw [Int.natAbs_natCast]; exact h.d) hk k0 hB
theorem sh_en {B k : Nat} {e : Int × Rat} (he : e.1.natAbs < 2 ^ 10) (h : Bt k e.2) (hk : k ≤ 1900) (k0 : 10 ≤ k) (hB : k + 1 ≤ B) : Sh B 6 2 (en e) := by
  refine Sh.tup (n := 2) (dp := 1) (fun x hx => ?_) (Nat.le_refl 6)
  simp only [List.mem_cons, List.not_mem_nil, or_false] at hx
  rcases hx with rfl | rfl
  · exact (sh_int he (by decide) (by decide) (by omega)).mono (by decide) (by decide)
  · exact sh_fr h hk (by omega) hB
theorem sh_P {B k m : Nat} {P : Po} (he : ∀ e ∈ P, e.1.natAbs < 2 ^ 10 ∧ Bt k e.2) (hk : k ≤ 1900) (k0 : 10 ≤ k) (hB : k + 1 ≤ B) (hm : P.length ≤ m) : Sh B (7 * m) 3 (encP P) := by
  refine Sh.tup (n := 6) (dp := 2) (fun x hx => ?_) (by rw [List.length_map]; omega)
  obtain ⟨e, h, rfl⟩ := List.mem_map.mp hx
  exact sh_en (he e h).1 (he e h).2 hk k0 hB
/-! tests -/
theorem isFrac_fr (q : Rat) : isFrac (fr q) = true := by
  show (decide (0 < (q.den : Int)) && decide (((Nat.gcd q.num.natAbs ((q.den : Nat) : Int).natAbs : Nat) : Int) = 1)) = true
  rw [Int.natAbs_natCast, show Nat.gcd q.num.natAbs q.den = 1 from q.reduced, decide_eq_true (by have := q.den_pos; omega)]; rfl
theorem nz_fr {q : Rat} (h : q ≠ 0) : nz (fr q) = true := by
  show (!(decide (q.num = 0) && _)) = true
  rw [decide_eq_false fun z => h (Rat.num_eq_zero.mp z)]; rfl
theorem isPoly_can {P : Po} (h : Can P) : isPoly (encP P) = true := by
  have e : P.map en = (P.map fun e => (PyData.int e.1, fr e.2)).map K30.pr := by rw [List.map_map]; rfl
  show isPoly (.tuple (P.map en)) = true
  rw [e, isPoly_pr, Bool.and_eq_true]
  constructor
  · refine List.all_eq_true.mpr fun x hx => ?_
    obtain ⟨y, hy, rfl⟩ := List.mem_map.mp hx
    obtain ⟨z, hz, rfl⟩ := List.mem_map.mp hy
    show okE (.int z.1) (fr z.2) = true
    unfold okE
    rw [isFrac_fr, nz_fr (h.nz z hz)]; rfl
  · rw [List.map_map]
    have e2 : (P.map (keyI ∘ fun e => (PyData.int e.1, fr e.2))) = P.map (·.1) := rfl
    rw [e2, rise_iff]
    intro k a b h1 h2
    have h3 := List.pairwise_iff_getElem.mp h.up
    obtain ⟨l1, e1⟩ := List.getElem?_eq_some_iff.mp h1
    obtain ⟨l2, e2⟩ := List.getElem?_eq_some_iff.mp h2
    have := h3 k (k + 1) l1 l2 (by omega)
    omega
theorem is_poly_can {P : Po} (h : Can P) (hl : P.length ≤ 1000) : mf_is_poly [encP P] = pure (.bool true) := by
  rw [is_poly_ok _ fun ds e => by cases e; rw [List.length_map]; omega, isPoly_can h]
theorem eq_fr (a b : Rat) : eqD (fr a) (fr b) = some (.bool (decide (a = b))) := by
  unfold fr
  rw [eqD_tup2]
  congr 2
  by_cases h : a = b
  · subst h; simp
  · rw [decide_eq_false h]
    have : ¬ (a.num = b.num ∧ (a.den : Int) = (b.den : Int)) := fun z => h (Rat.ext z.1 (by omega))
    rw [← Bool.decide_and, decide_eq_false this]
theorem eqv_en (e f : Int × Rat) : PyData.eqv (en e) (en f) = decide (e = f) := by
  have h1 : PyData.eqv (fr e.2) (fr f.2) = decide (e.2 = f.2) := by
    have h := eq_fr e.2 f.2
    unfold eqD eqF at h
    rw [if_pos ⟨rfl, rfl, .inl (by unfold fr; simp [PyData.depth, PyData.depthAll])⟩] at h
    injection h with h
    injection h with h
  have h2 : PyData.eqv (en e) (en f) = (decide (e.1 = f.1) && decide (e.2 = f.2)) := by
    show PyData.eqv (.tuple [.int e.1, fr e.2]) (.tuple [.int f.1, fr f.2]) = _
    simp only [PyData.eqv, PyData.eqvAll, h1, Bool.and_true]
    congr 1
  rw [h2]
  by_cases z : e = f
  · subst z; simp
  · rw [decide_eq_false z, ← Bool.decide_and, decide_eq_false fun w => z (Prod.ext w.1 w.2)]
theorem eqv_P : ∀ A B : Po, PyData.eqvAll (A.map en) (B.map en) = decide (A = B)
  | [], [] => by simp [PyData.eqvAll]
  | [], f :: B => by simp [PyData.eqvAll]
  | e :: A, [] => by simp [PyData.eqvAll]
  | e :: A, f :: B => by
    rw [List.map_cons, List.map_cons]
    simp only [PyData.eqvAll, eqv_en, eqv_P A B]
    by_cases z : e = f
    · subst z; simp
    · rw [decide_eq_false z, decide_eq_false fun w => z (List.cons.inj w).1]; rfl
theorem plain_P (P : Po) : (encP P).plain = true := by
  have : ∀ P : Po, PyData.plainAll (P.map en) = true := fun P => by
    induction P with
    | nil => simp [PyData.plainAll]
    | cons e P ih => rw [List.map_cons]; unfold en fr at *; simp [PyData.plainAll, PyData.plain, ih]
  show PyData.plain (.tuple (P.map en)) = true
  simp only [PyData.plain, this]
theorem depth_P (P : Po) : (encP P).depth ≤ 3 := by
  have : ∀ P : Po, PyData.depthAll (P.map en) ≤ 2 := fun P => by
    induction P with
    | nil => simp [PyData.depthAll]
    | cons e P ih => rw [List.map_cons]; unfold en fr at *; simp [PyData.depthAll, PyData.depth]; omega
  have := this P
  show PyData.depth (.tuple (P.map en)) ≤ 3
  simp only [PyData.depth]; omega
theorem eq_P (A B : Po) : eqD (encP A) (encP B) = some (.bool (decide (A = B))) := by
  unfold eqD eqF
  rw [if_pos ⟨plain_P A, plain_P B, .inl (by have := depth_P A; omega)⟩]
  show some (PyData.bool (PyData.eqv (.tuple (A.map en)) (.tuple (B.map en)))) = _
  simp only [PyData.eqv, eqv_P]
theorem ne_bool (a b : Bool) : neD (.bool a) (.bool b) = some (.bool (a != b)) := by
  unfold neD eqF
  rw [if_pos ⟨rfl, rfl, .inl (by simp [PyData.depth])⟩]
  cases a <;> cases b <;> simp [PyData.eqv]
theorem ne_str (s : Str) : neD (.str s) (.str s) = some (.bool false) := by
  unfold neD eqF
  rw [if_pos ⟨rfl, rfl, .inl (by simp [PyData.depth])⟩]
  simp [PyData.eqv]
/-! the frame -/
def upd (f : Nat → Sl) (i : Nat) (v : Sl) : Nat → Sl := fun j => if j = i then v else f j
abbrev F (f : Nat → Sl) : Ev := [f 0, f 1, f 2, f 3, f 4, f 5, f 6, f 7, f 8, f 9, f 10, f 11, f 12, f 13, f 14, f 15, f 16, f 17]
end K30
end

section
set_option Elab.async false
set_option linter.all false
set_option maxRecDepth 100000
set_option maxHeartbeats 1000000
namespace K30
open PySem PySem.Spec PyProof.Rows L2 DL PL
theorem s4 (a b c d : PyData) : sz [a, b, c, d] = some [a, b, c, d] := rfl
theorem s3 (a b c : PyData) : sz [a, b, c] = some [a, b, c] := rfl
theorem s2 (a b : PyData) : sz [a, b] = some [a, b] := rfl
theorem s1 (a : PyData) : sz [a] = some [a] := rfl
theorem fr_int (z : Int) : fr (z : Rat) = .tuple [.int z, .int 1] := by
  unfold fr
  rw [Rat.num_intCast, Rat.den_intCast]; rfl
theorem one_fr : c_ONE = fr 1 := by
  rw [show (1 : Rat) = ((1 : Int) : Rat) from rfl, fr_int]; rfl
theorem put_eq {N k m : Nat} {L P : Po} (h : Bd N k L) (hm : k + 401 * L.length ≤ m) (hc : IsCf L P) : Put N m L P := by
  obtain ⟨P', h'⟩ := put_ex h hm
  have : P' = P := h'.cf.uniq hc fun _ => rfl
  exact this ▸ h'
theorem bg_small {M n : Nat} {L : Po} (h : ∀ e ∈ L, Q M n e.2) (h0 : 0 < M) (hM : M < 2 ^ 400) (hn : n ≤ 400000) (n0 : 0 < n) : ∀ e ∈ L, Bg e.2 := fun e he => q_bg (h e he) h0 hM hn n0
theorem forM_nx {f : PyData → Ev → M Fl} {d : PyData} {ds : List PyData} {ρ ρ' : Ev} (h : f d ρ = pure (.nx ρ')) : DL.forM (d :: ds) f ρ = DL.forM ds f ρ' := by
  conv => lhs; unfold DL.forM
  rw [h]; rfl
theorem gb_ok {g : PyData → Ev → M Ev} {mb : Ev → M Fl} {d : PyData} {ρ ρ1 : Ev} {fl : Fl} (h : g d ρ = pure ρ1) (h2 : mb ρ1 = pure fl) : (do let ρ' ← g d ρ; mb ρ' : M Fl) = pure fl := by
  rw [h]; exact h2
/-- a loop over a list, turn by turn -/
theorem for_ix {α : Type} {g : α → PyData} {f : PyData → Ev → M Fl} {S : Nat → Ev → Prop} : ∀ (as : List α) {j : Nat} {ρ : Ev}, S j ρ → (∀ i a ρ, as[i]? = some a → S (j + i) ρ → ∃ ρ', f (g a) ρ = pure (.nx ρ') ∧ S (j + i + 1) ρ') → ∃ ρ', DL.forM (as.map g) f ρ = pure (.nx ρ') ∧ S (j + as.length) ρ'
  | [], j, ρ, h, _ => ⟨ρ, rfl, h⟩
  | a :: as, j, ρ, h, hf => by
    obtain ⟨ρ1, e1, h1⟩ := hf 0 a ρ rfl h
    obtain ⟨ρ2, e2, h2⟩ := for_ix as (j := j + 1) h1 fun i b ρ hb hS => by
      have := hf (i + 1) b ρ (by simpa using hb) (by rw [show j + (i + 1) = j + 1 + i by omega]; exact hS)
      rwa [show j + (i + 1) + 1 = j + 1 + i + 1 by omega] at this
    refine ⟨ρ2, ?_, by rw [List.length_cons, show j + (as.length + 1) = j + 1 + as.length by omega]; exact h2⟩
    rw [List.map_cons, forM_nx e1]
    exact e2
theorem rngD_map (n : Nat) : rngD 0 n = (List.range n).map fun (i : Nat) => PyData.int (i : Int) := by
  unfold rngD
  exact List.map_congr_left fun i _ => by rw [Int.zero_add]
theorem for_rng {n : Nat} {f : PyData → Ev → M Fl} {S : Nat → Ev → Prop} {ρ : Ev} (h : S 0 ρ) (hf : ∀ (i : Nat) ρ, i < n → S i ρ → ∃ ρ', f (.int (i : Nat)) ρ = pure (.nx ρ') ∧ S (i + 1) ρ') : ∃ ρ', DL.forM (rngD 0 n) f ρ = pure (.nx ρ') ∧ S n ρ' := by
  obtain ⟨ρ', e, h'⟩ := for_ix (g := fun (i : Nat) => PyData.int (i : Int)) (f := f) (S := S) (List.range n) h fun i a ρ ha hS => by
    have hi := List.getElem?_eq_some_iff.mp ha
    obtain ⟨hl, he⟩ := hi
    rw [List.getElem_range] at he
    subst he
    rw [Nat.zero_add] at hS ⊢
    exact hf i ρ (by rwa [List.length_range] at hl) hS
  rw [List.length_range, Nat.zero_add] at h'
  exact ⟨ρ', by rw [rngD_map]; exact e, h'⟩
theorem choose_ok {n : Int} {k : Nat} (hn : n.natAbs ≤ 1000) (hk : k ≤ 1000) : mf_choose [.int n, .int (k : Nat)] = pure (.int (chI n k)) := by
  refine fn_rt ?_
  have hr : rng1D [.int (k : Nat)] = some (rngD 0 k) := by rw [rng1D_ok (by omega) (by omega)]; rfl
  obtain ⟨ρ', e, y, rfl⟩ := for_rng (n := k) (f := fun d ρ => do let ρ' ← gSet 3 d ρ; mSet 2 (mOp fdivD (mOp mulD (mName 2) (mOp subD (mName 0) (mName 3))) (mOp addD (mName 3) (mC (.int 1)))) ρ') (S := fun j ρ => ∃ y, ρ = [.vl (.int n), .vl (.int (k : Nat)), .vl (.int (chI n j)), y]) (ρ := [.vl (.int n), .vl (.int (k : Nat)), .vl (.int 1), .no]) ⟨_, rfl⟩ fun i ρ hi ⟨y, hρ⟩ => by
    subst hρ
    refine ⟨_, ?_, .vl (.int (i : Nat)), rfl⟩
    have m : mulD (.int (chI n i)) (.int (n - (i : Nat))) = some (.int (chI n i * (n - (i : Nat)))) := mulD_ok (.inl (by omega))
    have d : fdivD (.int (chI n i * (n - (i : Nat)))) (.int ((i : Nat) + 1)) = some (.int (chI n (i + 1))) := by
      have hlt : ((i : Int) + 1).natAbs < 2 ^ 900 := Nat.lt_of_lt_of_le (show ((i : Int) + 1).natAbs < 2000 by omega) (by decide)
      exact fdivD_ok ⟨by omega, log2_small hlt⟩
    have sb : subD (.int n) (.int (i : Nat)) = some (.int (n - (i : Nat))) := rfl
    have ad : addD (.int (i : Nat)) (.int 1) = some (.int ((i : Nat) + 1)) := rfl
    simp only [mSeq, mIfS, mRet, mRetN, mPass, mOrT, mAndT, mNotT, mAsB, mIsi, mName, mOwn, mC, mOp, mOp3, mCl, mCons, mNil, mFrz, mFrzD, mSeqI, mCall, mAndV, mOrV, mNotV, mIfE, mTup, mLst, mSet, mSetF, mSetD, mPar, mUn, mUn', mCut, mP, mNoP, mIsN, mIsNot, mRng, mKeys, mYes, gSet, gTupD, gsCons, gsNil, mFz, mDrop, mAsg, mAppend, ev0, frzAt, wipeE, rdV_vl, rdB_vl, rdB_ol, rdB_od, asB_b, asI_i, seqD_l, seqD_t, lenI1, lenI2, lenI3, lft_some, pure_bind, getE0, getES, List.set_cons_zero, List.set_cons_succ, List.map_cons, List.map_nil, List.cons_append, List.nil_append, List.replicate_succ, List.replicate_zero, List.append_nil, List.length_cons, List.length_nil, if_true, if_false, ite_true, ite_false, Bool.false_eq_true, reduceIte, Bool.not_true, Bool.not_false, Nat.reduceAdd, Nat.reduceSub, List.zip_cons_cons, List.zip_nil_right, List.foldl_cons, List.foldl_nil, m, d, sb, ad]
  show m_choose [.vl (.int n), .vl (.int (k : Nat)), .no, .no] = _
  unfold m_choose
  rw [seq_nx (ρ' := [.vl (.int n), .vl (.int (k : Nat)), .vl (.int 1), .no]) rfl, seq_nx (for_ok (ds := rngD 0 k) (by simp only [mSeq, mIfS, mRet, mRetN, mPass, mOrT, mAndT, mNotT, mAsB, mIsi, mName, mOwn, mC, mOp, mOp3, mCl, mCons, mNil, mFrz, mFrzD, mSeqI, mCall, mAndV, mOrV, mNotV, mIfE, mTup, mLst, mSet, mSetF, mSetD, mPar, mUn, mUn', mCut, mP, mNoP, mIsN, mIsNot, mRng, mKeys, mYes, gSet, gTupD, gsCons, gsNil, mFz, mDrop, mAsg, mAppend, ev0, frzAt, wipeE, rdV_vl, rdB_vl, rdB_ol, rdB_od, asB_b, asI_i, seqD_l, seqD_t, lenI1, lenI2, lenI3, lft_some, pure_bind, getE0, getES, List.set_cons_zero, List.set_cons_succ, List.map_cons, List.map_nil, List.cons_append, List.nil_append, List.replicate_succ, List.replicate_zero, List.append_nil, List.length_cons, List.length_nil, if_true, if_false, ite_true, ite_false, Bool.false_eq_true, reduceIte, Bool.not_true, Bool.not_false, Nat.reduceAdd, Nat.reduceSub, List.zip_cons_cons, List.zip_nil_right, List.foldl_cons, List.foldl_nil, hr]) e)]
  rfl
theorem can_len {P : Po} (h : Can P) (hr : ∀ e ∈ P, 0 ≤ e.1 ∧ e.1 ≤ 16) : P.length ≤ 17 := by
  have hn : (P.map (·.1)).Nodup := h.up.imp fun h => by omega
  have := nodup_len (P.map (·.1)) [0, 1, 2, 3, 4, 5, 6, 7, 8, 9, 10, 11, 12, 13, 14, 15, 16] hn fun x hx => by
    obtain ⟨e, he, rfl⟩ := List.mem_map.mp hx
    have := hr e he
    simp only [List.mem_cons, List.not_mem_nil, or_false]
    omega
  simpa using this
theorem neg_can {B : Po} (h : Can B) : Can (scaled (-1) B) := ⟨by
  have : (scaled (-1) B).map (·.1) = B.map (·.1) := by unfold scaled; rw [List.map_map]; rfl
  rw [this]; exact h.up, fun e he => by
  obtain ⟨x, hx, rfl⟩ := List.mem_map.mp he
  have := h.nz x hx
  show -1 * x.2 ≠ 0
  intro z
  exact this (by grind)⟩
theorem neg_q {N k : Nat} {B : Po} (h : ∀ e ∈ B, Q N k e.2) : ∀ e ∈ scaled (-1) B, Q N k e.2 := fun e he => by
  obtain ⟨x, hx, rfl⟩ := List.mem_map.mp he
  show Q N k (-1 * x.2)
  rw [show -1 * x.2 = -x.2 by grind]
  exact ⟨by rw [Rat.neg_den]; exact (h x hx).dv, by rw [Rat.neg_num, Int.natAbs_neg]; exact (h x hx).nm⟩
theorem app_q {N k : Nat} {L M : Po} (h : ∀ e ∈ L, Q N k e.2) (h' : ∀ e ∈ M, Q N k e.2) : ∀ e ∈ L ++ M, Q N k e.2 := fun e he => (List.mem_append.mp he).elim (h e) (h' e)
theorem sc_len (c : Rat) (L : Po) : (scaled c L).length = L.length := List.length_map _
structure NxOk (n : Nat) : Prop where
  t : IsCf (scaled (((n + 1 : Nat) : Rat)⁻¹) (accL n n)) (tb n)
  q : ∀ e ∈ tb n, Q 12252240 12 e.2
  c : Can (tb n)
  l : (tb n).length ≤ 9
  r : ∀ e ∈ tb n, 0 ≤ e.1 ∧ e.1 ≤ 16
  z : IsCf (tb 0 ++ scaled (-1) [(0, 1)]) (sbl 0)
theorem nx_ok {n : Nat} (h : n < 16) : NxOk n := by
  have := nx_all n h
  unfold nxB at this
  simp only [Bool.and_eq_true, decide_eq_true_eq] at this
  obtain ⟨⟨⟨⟨⟨h1, h2⟩, h3⟩, h4⟩, h5⟩, h6⟩ := this
  refine ⟨chk_ok h1, qB_ok h2, canB_ok h3, h4, fun e he => ?_, chk_ok h6⟩
  have := List.all_eq_true.mp h5 e he
  simp only [Bool.and_eq_true, decide_eq_true_eq] at this
  exact this
theorem ch_ok {n j : Nat} (h : n < 16) (hj : j < n) : Can (scaled (chR n j) (tb j)) ∧ Q 1 14 (chR n j) := by
  have := ch_all n h j hj
  unfold chB at this
  simp only [Bool.and_eq_true, decide_eq_true_eq] at this
  exact ⟨canB_ok this.1, by unfold chR; rw [Rat.den_intCast]; exact Nat.dvd_refl 1, this.2⟩
/-- found behind j subtractions -/
structure Fd (n j : Nat) (P : Po) : Prop where
  cf : IsCf (accL n j) P
  q : ∀ e ∈ P, Q 12252240 (100 + 20000 * j) e.2
  r : ∀ e ∈ P, 0 ≤ e.1 ∧ e.1 ≤ 16
theorem fd_step {n j : Nat} (hn : n < 16) (hj : j < n) {P : Po} (h : Fd n j P) : ∃ P', Fd n (j + 1) P' ∧ mf_poly_scaled [fr (chR n j), encP (tb j)] = pure (encP (scaled (chR n j) (tb j))) ∧ mf_poly_less [encP P, encP (scaled (chR n j) (tb j))] = pure (encP P') := by
  have t := nx_ok (n := j) (by omega)
  obtain ⟨c1, c2⟩ := ch_ok hn hj
  have c0 : 12252240 < 2 ^ 400 := Nat.lt_trans (show 12252240 < 2 ^ 24 by decide) (Nat.pow_lt_pow_right (by decide) (by decide))
  have qs : ∀ e ∈ scaled (chR n j) (tb j), Q 12252240 26 e.2 := fun e he => by
    obtain ⟨x, hx, rfl⟩ := List.mem_map.mp he
    have := c2.mul (t.q x hx)
    rwa [Nat.one_mul] at this
  have ls : (scaled (chR n j) (tb j)).length ≤ 9 := by rw [sc_len]; exact t.l
  have ln : (scaled (-1) (scaled (chR n j) (tb j))).length ≤ 9 := by rw [sc_len]; exact ls
  have lp := can_len h.cf.can h.r
  have la : (P ++ scaled (-1) (scaled (chR n j) (tb j))).length ≤ 26 := by rw [List.length_append]; omega
  have e1 := pscaled_ok (q_bg c2 (by decide) (by decide) (by decide) (by decide)) (bg_small t.q (by decide) c0 (by decide) (by decide)) (put_eq (N := 12252240) (k := 26) (m := 20000) ⟨by decide, c0, by decide, by omega, qs, by omega⟩ (by omega) (IsCf.self c1))
  have h1 : Put 12252240 20000 (scaled (-1) (scaled (chR n j) (tb j))) (scaled (-1) (scaled (chR n j) (tb j))) := put_eq (k := 26) ⟨by decide, c0, by decide, by omega, neg_q qs, by omega⟩ (by omega) (IsCf.self (neg_can c1))
  obtain ⟨P', h2⟩ := put_ex (N := 12252240) (k := 100 + 20000 * j) (m := 100 + 20000 * (j + 1)) (L := P ++ scaled (-1) (scaled (chR n j) (tb j))) ⟨by decide, c0, by omega, by omega, app_q h.q fun e he => (neg_q qs e he).mono (by omega), by omega⟩ (by omega)
  refine ⟨P', ⟨⟨h2.cf.can, fun i => ?_⟩, h2.q, fun e he => ?_⟩, e1, pless_ok (bg_small qs (by decide) c0 (by decide) (by decide)) h1 h2⟩
  · rw [h2.cf.eq, co_app, h.cf.eq]
    show _ = co (accL n j ++ scaled (-1) (scaled (chR n j) (tb j))) i
    rw [co_app]
  · obtain ⟨x, hx, z⟩ := PL.Can.keys h2.cf e he
    rw [← z]
    rcases List.mem_append.mp hx with hx | hx
    · exact h.r x hx
    · obtain ⟨y, hy, rfl⟩ := List.mem_map.mp hx
      obtain ⟨w, hw, rfl⟩ := List.mem_map.mp hy
      exact t.r w hw
end K30
end

section

set_option Elab.async false
set_option linter.all false
set_option maxRecDepth 100000
set_option maxHeartbeats 1000000
namespace K30
open PySem PySem.Spec PyProof.Rows L2 DL PL
theorem forJ_ix {α : Type} {g : α → PyData} {f : PyData → Ev → M Fl} {S : Nat → Ev → Prop} : ∀ (as : List α) {j : Nat} {ρ : Ev}, S j ρ → (∀ i a ρ, as[i]? = some a → S (j + i) ρ → ∃ ρ', f (g a) ρ = pure (.nx ρ') ∧ S (j + i + 1) ρ') → ∃ ρ', forJ (as.map g) f ρ = pure (.nx ρ') ∧ S (j + as.length) ρ'
  | [], j, ρ, h, _ => ⟨ρ, rfl, h⟩
  | a :: as, j, ρ, h, hf => by
    obtain ⟨ρ1, e1, h1⟩ := hf 0 a ρ rfl h
    obtain ⟨ρ2, e2, h2⟩ := forJ_ix as (j := j + 1) h1 fun i b ρ hb hS => by
      have := hf (i + 1) b ρ (by simpa using hb) (by rw [show j + (i + 1) = j + 1 + i by omega]; exact hS)
      rwa [show j + (i + 1) + 1 = j + 1 + i + 1 by omega] at this
    refine ⟨ρ2, ?_, by rw [List.length_cons, show j + (as.length + 1) = j + 1 + as.length by omega]; exact h2⟩
    rw [List.map_cons]
    conv => lhs; unfold forJ
    rw [e1]
    exact e2
theorem enumF_rng (g : Nat → PyData) : ∀ (n k : Nat), enumF k ((List.range' k n).map g) = (List.range' k n).map fun i => PyData.tuple [.int (i : Nat), g i]
  | 0, _ => rfl
  | n + 1, k => by
    rw [List.range'_succ, List.map_cons, List.map_cons]
    show _ :: enumF (k + 1) _ = _
    rw [enumF_rng g n (k + 1)]
theorem enumF_range (g : Nat → PyData) (n : Nat) : enumF 0 ((List.range n).map g) = (List.range n).map fun i => PyData.tuple [.int (i : Nat), g i] := by
  rw [List.range_eq_range', enumF_rng]
theorem rng_ix {n i a : Nat} (h : (List.range n)[i]? = some a) : a = i ∧ i < n := by
  obtain ⟨hl, he⟩ := List.getElem?_eq_some_iff.mp h
  rw [List.getElem_range] at he
  rw [List.length_range] at hl
  exact ⟨he.symm, hl⟩
abbrev tbs (n : Nat) : List PyData := (List.range n).map fun k => encP (tb k)
theorem sb_inner {n : Nat} (hn : n < 16) (x0 y4 y5 : Sl) : ∃ P z4 z5, Fd n n P ∧ mForJ (mEnum (mOwn 1)) (gTupD 2 (gsCons (gSet 4) (gsCons (gSet 5) (gsNil)))) (mSet 3 (mCall 2 mf_poly_less (mCons (mName 3) (mCons (mCall 2 mf_poly_scaled (mCons (mTup (mCons (mCall 2 mf_choose (mCons (mOp addD (mName 2) (mC (.int 1))) (mCons (mName 4) (mNil)))) (mCons (mC (.int 1)) (mNil)))) (mCons (mName 5) (mNil)))) (mNil))))) [x0, .ol (tbs n), .vl (.int (n : Nat)), .vl (encP (accL n 0)), y4, y5] = pure (.nx [x0, .ol (tbs n), .vl (.int (n : Nat)), .vl (encP P), z4, z5]) := by
  have h0 : Fd n 0 (accL n 0) := by
    have c : Can (accL n 0) := ⟨by simp [accL], fun e he => by rw [List.mem_singleton.mp he]; show (1 : Rat) ≠ 0; decide +kernel⟩
    refine ⟨IsCf.self c, fun e he => ?_, fun e he => ?_⟩
    · rw [List.mem_singleton.mp he]
      exact ⟨show (1 : Rat).den ∣ 12252240 by decide +kernel, Nat.lt_of_lt_of_le (show (1 : Rat).num.natAbs < 2 ^ 1 by decide +kernel) (pow_le (by omega))⟩
    · rw [List.mem_singleton.mp he]
      show 0 ≤ ((n : Int) + 1) ∧ ((n : Int) + 1) ≤ 16
      omega
  obtain ⟨ρ', e, P, z4, z5, hP, rfl⟩ := forJ_ix (g := fun (i : Nat) => PyData.tuple [.int (i : Nat), encP (tb i)]) (f := fun d ρ => do let ρ' ← gTupD 2 (gsCons (gSet 4) (gsCons (gSet 5) (gsNil))) d ρ; mSet 3 (mCall 2 mf_poly_less (mCons (mName 3) (mCons (mCall 2 mf_poly_scaled (mCons (mTup (mCons (mCall 2 mf_choose (mCons (mOp addD (mName 2) (mC (.int 1))) (mCons (mName 4) (mNil)))) (mCons (mC (.int 1)) (mNil)))) (mCons (mName 5) (mNil)))) (mNil)))) ρ')
    (S := fun j ρ => ∃ P y4 y5, Fd n j P ∧ ρ = [x0, .ol (tbs n), .vl (.int (n : Nat)), .vl (encP P), y4, y5]) (List.range n) (j := 0) (ρ := [x0, .ol (tbs n), .vl (.int (n : Nat)), .vl (encP (accL n 0)), y4, y5]) ⟨_, _, _, h0, rfl⟩ fun i a ρ ha ⟨P, y4, y5, hP, hρ⟩ => by
      obtain ⟨rfl, hi⟩ := rng_ix ha
      rw [Nat.zero_add] at hP ⊢
      subst hρ
      obtain ⟨P', hP', e1, e2⟩ := fd_step hn hi hP
      refine ⟨_, ?_, P', .vl (.int (a : Nat)), .vl (encP (tb a)), hP', rfl⟩
      have ch := choose_ok (n := (n : Int) + 1) (k := a) (by omega) (by omega)
      have ad : addD (.int (n : Nat)) (.int 1) = some (.int ((n : Int) + 1)) := rfl
      have cf : (PyData.tuple [.int (chI ((n : Int) + 1) a), .int 1]) = fr (chR n a) := (fr_int _).symm
      generalize tbs n = tt at *
      generalize encP (tb a) = ta at *
      generalize encP P = p at *
      generalize encP P' = p' at *
      generalize encP (scaled (chR n a) (tb a)) = sc at *
      simp only [mSeq, mIfS, mRet, mRetN, mPass, mOrT, mAndT, mNotT, mAsB, mIsi, mName, mOwn, mC, mOp, mOp3, mCl, mCons, mNil, mFrz, mFrzD, mSeqI, mCall, mAndV, mOrV, mNotV, mIfE, mTup, mLst, mSet, mSetF, mSetD, mPar, mUn, mUn', mCut, mP, mNoP, mIsN, mIsNot, mRng, mKeys, mYes, gSet, gTupD, gsCons, gsNil, mFz, mDrop, mAsg, mAppend, ev0, frzAt, wipeE, rdV_vl, rdB_vl, rdB_ol, rdB_od, asB_b, asI_i, seqD_l, seqD_t, lenI1, lenI2, lenI3, lft_some, pure_bind, getE0, getES, List.set_cons_zero, List.set_cons_succ, List.map_cons, List.map_nil, List.cons_append, List.nil_append, List.replicate_succ, List.replicate_zero, List.append_nil, List.length_cons, List.length_nil, if_true, if_false, ite_true, ite_false, Bool.false_eq_true, reduceIte, Bool.not_true, Bool.not_false, Nat.reduceAdd, Nat.reduceSub, List.zip_cons_cons, List.zip_nil_right, List.foldl_cons, List.foldl_nil, ad, ch, s2, cf, e1, e2]
  rw [List.length_range, Nat.zero_add] at hP
  refine ⟨P, z4, z5, hP, ?_⟩
  unfold mForJ
  have hi : mEnum (mOwn 1) [x0, .ol (tbs n), .vl (.int (n : Nat)), .vl (encP (accL n 0)), y4, y5] = pure ((List.range n).map fun (i : Nat) => PyData.tuple [.int (i : Nat), encP (tb i)]) := by
    rw [← enumF_range (fun k => encP (tb k)) n]
    rfl
  rw [hi]
  exact e
theorem sb_turn {n : Nat} (hn : n < 16) {P : Po} (hP : Fd n n P) : mf_fraction_of [.int 1, .int ((n : Int) + 1)] = pure (fr (((n + 1 : Nat) : Rat)⁻¹)) ∧ mf_poly_scaled [fr (((n + 1 : Nat) : Rat)⁻¹), encP P] = pure (encP (tb n)) := by
  have t := nx_ok hn
  have c0 : 12252240 < 2 ^ 30 := by decide
  have hlt : n + 1 < 2 ^ 900 := Nat.lt_of_lt_of_le (show n + 1 < 17 by omega) (by decide)
  have hq := q_inv (n + 1) 1 (by omega) (by decide)
  have hN : (n + 1) * 12252240 < 2 ^ 400 := Nat.lt_trans (show (n + 1) * 12252240 < 2 ^ 30 by omega) (Nat.pow_lt_pow_right (by decide) (by decide))
  have hc : Bg (((n + 1 : Nat) : Rat)⁻¹) := q_bg hq (by omega) (Nat.lt_of_lt_of_le (show n + 1 < 17 by omega) (by decide)) (by decide) (by decide)
  have bP : ∀ e ∈ P, Bg e.2 := bg_small hP.q (by decide) (Nat.lt_trans c0 (Nat.pow_lt_pow_right (by decide) (by decide))) (by omega) (by omega)
  have lp := can_len hP.cf.can hP.r
  refine ⟨?_, ?_⟩
  · have f := frac_of_ok (p := 1) (d := n + 1) (by omega) hlt
    rw [fracD_fr 1 (n + 1) (by omega), ← inv_nat (by omega)] at f
    exact f
  · refine pscaled_ok hc bP (put_eq (N := (n + 1) * 12252240) (k := 1 + (100 + 20000 * n)) (m := 1 + (100 + 20000 * n) + 10000) ⟨by omega, hN, by omega, by rw [sc_len]; omega, fun e he => ?_, by rw [sc_len]; omega⟩ (by rw [sc_len]; omega) ⟨t.c, fun i => ?_⟩)
    · obtain ⟨x, hx, rfl⟩ := List.mem_map.mp he
      exact hq.mul (hP.q x hx)
    · rw [t.t.eq, co_scaled, co_scaled, hP.cf.eq]
theorem sum_below_ok {e : Nat} (he : e < 16) : mf_sum_below [.int (e : Nat)] = pure (encP (sbl e)) := by
  refine fn_rt ?_
  have hr : rng1D [.int ((e : Int) + 1)] = some (rngD 0 (e + 1)) := by rw [rng1D_ok (by omega) (by omega)]; rfl
  have ad : ∀ n : Nat, addD (.int (n : Nat)) (.int 1) = some (.int ((n : Int) + 1)) := fun _ => rfl
  obtain ⟨ρ', e1, x2, x3, x4, x5, rfl⟩ := for_rng (n := e + 1) (f := fun d ρ => do let ρ' ← gSet 2 d ρ; (mSeq (mSet 3 (mTup (mCons (mTup (mCons (mOp addD (mName 2) (mC (.int 1))) (mCons (mC c_ONE) (mNil)))) (mNil)))) (mSeq (mForJ (mEnum (mOwn 1)) (gTupD 2 (gsCons (gSet 4) (gsCons (gSet 5) (gsNil)))) (mSet 3 (mCall 2 mf_poly_less (mCons (mName 3) (mCons (mCall 2 mf_poly_scaled (mCons (mTup (mCons (mCall 2 mf_choose (mCons (mOp addD (mName 2) (mC (.int 1))) (mCons (mName 4) (mNil)))) (mCons (mC (.int 1)) (mNil)))) (mCons (mName 5) (mNil)))) (mNil)))))) (mAppend 1 (mCall 2 mf_poly_scaled (mCons (mCall 2 mf_fraction_of (mCons (mC (.int 1)) (mCons (mOp addD (mName 2) (mC (.int 1))) (mNil)))) (mCons (mName 3) (mNil))))))) ρ')
    (S := fun n ρ => ∃ x2 x3 x4 x5, ρ = [.vl (.int (e : Nat)), .ol (tbs n), x2, x3, x4, x5]) (ρ := [.vl (.int (e : Nat)), .ol [], .no, .no, .no, .no]) ⟨_, _, _, _, rfl⟩ fun n ρ hn ⟨x2, x3, x4, x5, hρ⟩ => by
      subst hρ
      obtain ⟨P, z4, z5, hP, e2⟩ := sb_inner (n := n) (by omega) (.vl (.int (e : Nat))) x4 x5
      obtain ⟨t1, t2⟩ := sb_turn (n := n) (by omega) hP
      refine ⟨[.vl (.int (e : Nat)), .ol (tbs (n + 1)), .vl (.int (n : Nat)), .vl (encP P), z4, z5], ?_, _, _, _, _, rfl⟩
      refine gb_ok (ρ1 := [.vl (.int (e : Nat)), .ol (tbs n), .vl (.int (n : Nat)), x3, x4, x5]) rfl ?_
      rw [seq_nx (ρ' := [.vl (.int (e : Nat)), .ol (tbs n), .vl (.int (n : Nat)), .vl (encP (accL n 0)), x4, x5]) ?_, seq_nx e2]
      · have o : olAt [.vl (.int (e : Nat)), .ol (tbs n), .vl (.int (n : Nat)), .vl (encP P), z4, z5] 1 = some (tbs n) := rfl
        have v : mCall 2 mf_poly_scaled (mCons (mCall 2 mf_fraction_of (mCons (mC (.int 1)) (mCons (mOp addD (mName 2) (mC (.int 1))) (mNil)))) (mCons (mName 3) (mNil))) [.vl (.int (e : Nat)), .ol (tbs n), .vl (.int (n : Nat)), .vl (encP P), z4, z5] = pure (encP (tb n)) := by
          have ad' := ad n
          generalize encP P = p at *
          generalize encP (tb n) = q at *
          generalize tbs n = tt at *
          simp only [mSeq, mIfS, mRet, mRetN, mPass, mOrT, mAndT, mNotT, mAsB, mIsi, mName, mOwn, mC, mOp, mOp3, mCl, mCons, mNil, mFrz, mFrzD, mSeqI, mCall, mAndV, mOrV, mNotV, mIfE, mTup, mLst, mSet, mSetF, mSetD, mPar, mUn, mUn', mCut, mP, mNoP, mIsN, mIsNot, mRng, mKeys, mYes, gSet, gTupD, gsCons, gsNil, mFz, mDrop, mAsg, mAppend, ev0, frzAt, wipeE, rdV_vl, rdB_vl, rdB_ol, rdB_od, asB_b, asI_i, seqD_l, seqD_t, lenI1, lenI2, lenI3, lft_some, pure_bind, getE0, getES, List.set_cons_zero, List.set_cons_succ, List.map_cons, List.map_nil, List.cons_append, List.nil_append, List.replicate_succ, List.replicate_zero, List.append_nil, List.length_cons, List.length_nil, if_true, if_false, ite_true, ite_false, Bool.false_eq_true, reduceIte, Bool.not_true, Bool.not_false, Nat.reduceAdd, Nat.reduceSub, List.zip_cons_cons, List.zip_nil_right, List.foldl_cons, List.foldl_nil, ad', t1, t2]
        have sz1 : szI (tbs n).length (tbs n ++ [encP (tb n)]) = some (tbs (n + 1)) := by
          have : tbs n ++ [encP (tb n)] = tbs (n + 1) := by
            show _ = (List.range (n + 1)).map _
            rw [List.range_succ, List.map_append]; rfl
          rw [this]
          exact if_pos (by rw [List.length_map, List.length_range]; omega)
        unfold mAppend
        rw [o, v]
        show ((lft (some (tbs n)) : M (List PyData)) >>= _) = _
        rw [lft_some, pure_bind, pure_bind, sz1]
        rfl
      · have e3 : encP (accL n 0) = .tuple [.tuple [.int ((n : Int) + 1), c_ONE]] := by
          show PyData.tuple [.tuple [.int ((n : Int) + 1), fr 1]] = _
          rw [← one_fr]
        have ad' := ad n
        rw [e3]
        generalize tbs n = tt at *
        simp only [mSeq, mIfS, mRet, mRetN, mPass, mOrT, mAndT, mNotT, mAsB, mIsi, mName, mOwn, mC, mOp, mOp3, mCl, mCons, mNil, mFrz, mFrzD, mSeqI, mCall, mAndV, mOrV, mNotV, mIfE, mTup, mLst, mSet, mSetF, mSetD, mPar, mUn, mUn', mCut, mP, mNoP, mIsN, mIsNot, mRng, mKeys, mYes, gSet, gTupD, gsCons, gsNil, mFz, mDrop, mAsg, mAppend, ev0, frzAt, wipeE, rdV_vl, rdB_vl, rdB_ol, rdB_od, asB_b, asI_i, seqD_l, seqD_t, lenI1, lenI2, lenI3, lft_some, pure_bind, getE0, getES, List.set_cons_zero, List.set_cons_succ, List.map_cons, List.map_nil, List.cons_append, List.nil_append, List.replicate_succ, List.replicate_zero, List.append_nil, List.length_cons, List.length_nil, if_true, if_false, ite_true, ite_false, Bool.false_eq_true, reduceIte, Bool.not_true, Bool.not_false, Nat.reduceAdd, Nat.reduceSub, List.zip_cons_cons, List.zip_nil_right, List.foldl_cons, List.foldl_nil, ad', s1, s2]
  show m_sum_below [.vl (.int (e : Nat)), .no, .no, .no, .no, .no] = _
  unfold m_sum_below
  have ad' := ad e
  rw [seq_nx (ρ' := [.vl (.int (e : Nat)), .ol [], .no, .no, .no, .no]) rfl, seq_nx (for_ok (ds := rngD 0 (e + 1)) (by simp only [mSeq, mIfS, mRet, mRetN, mPass, mOrT, mAndT, mNotT, mAsB, mIsi, mName, mOwn, mC, mOp, mOp3, mCl, mCons, mNil, mFrz, mFrzD, mSeqI, mCall, mAndV, mOrV, mNotV, mIfE, mTup, mLst, mSet, mSetF, mSetD, mPar, mUn, mUn', mCut, mP, mNoP, mIsN, mIsNot, mRng, mKeys, mYes, gSet, gTupD, gsCons, gsNil, mFz, mDrop, mAsg, mAppend, ev0, frzAt, wipeE, rdV_vl, rdB_vl, rdB_ol, rdB_od, asB_b, asI_i, seqD_l, seqD_t, lenI1, lenI2, lenI3, lft_some, pure_bind, getE0, getES, List.set_cons_zero, List.set_cons_succ, List.map_cons, List.map_nil, List.cons_append, List.nil_append, List.replicate_succ, List.replicate_zero, List.append_nil, List.length_cons, List.length_nil, if_true, if_false, ite_true, ite_false, Bool.false_eq_true, reduceIte, Bool.not_true, Bool.not_false, Nat.reduceAdd, Nat.reduceSub, List.zip_cons_cons, List.zip_nil_right, List.foldl_cons, List.foldl_nil, ad', hr]) e1)]
  have ix : ∀ k : Nat, k < e + 1 → ixD (.list (tbs (e + 1))) (.int (k : Nat)) = some (encP (tb k)) := fun k hk => L2.atI_nat (by rw [List.getElem?_map, List.getElem?_range hk]; rfl)
  cases e with
  | zero =>
    have t := nx_ok (n := 0) (by decide)
    have c0 : 12252240 < 2 ^ 400 := Nat.lt_trans (show 12252240 < 2 ^ 24 by decide) (Nat.pow_lt_pow_right (by decide) (by decide))
    have c1 : Can [((0 : Int), (1 : Rat))] := ⟨by simp, fun e he => by rw [List.mem_singleton.mp he]; decide +kernel⟩
    have q1 : ∀ e ∈ [((0 : Int), (1 : Rat))], Q 12252240 12 e.2 := fun e he => by
      rw [List.mem_singleton.mp he]
      exact ⟨by decide +kernel, by decide +kernel⟩
    have p := pless_ok (A := tb 0) (B := [((0 : Int), (1 : Rat))]) (bg_small q1 (by decide) c0 (by decide) (by decide)) (put_eq (N := 12252240) (k := 12) (m := 1000) ⟨by decide, c0, by decide, by decide, neg_q q1, by decide⟩ (by decide) (IsCf.self (neg_can c1))) (put_eq (N := 12252240) (k := 12) (m := 20000) ⟨by decide, c0, by decide, by decide +kernel, app_q t.q (neg_q q1), by decide +kernel⟩ (by decide +kernel) t.z)
    have i0 := ix 0 (by decide)
    have g : gtD (.int ((0 : Nat) : Int)) (.int 0) = some (.bool false) := rfl
    have e4 : encP [((0 : Int), (1 : Rat))] = .tuple [.tuple [.int 0, c_ONE]] := by
      show PyData.tuple [.tuple [.int 0, fr 1]] = _
      rw [← one_fr]
    rw [e4] at p
    have i0' : ixD (.list (tbs (0 + 1))) (.int 0) = some (encP (tb 0)) := i0
    generalize encP (tb 0) = t0 at *
    generalize encP (sbl 0) = sl at *
    generalize tbs (0 + 1) = tt at *
    simp only [mSeq, mIfS, mRet, mRetN, mPass, mOrT, mAndT, mNotT, mAsB, mIsi, mName, mOwn, mC, mOp, mOp3, mCl, mCons, mNil, mFrz, mFrzD, mSeqI, mCall, mAndV, mOrV, mNotV, mIfE, mTup, mLst, mSet, mSetF, mSetD, mPar, mUn, mUn', mCut, mP, mNoP, mIsN, mIsNot, mRng, mKeys, mYes, gSet, gTupD, gsCons, gsNil, mFz, mDrop, mAsg, mAppend, ev0, frzAt, wipeE, rdV_vl, rdB_vl, rdB_ol, rdB_od, asB_b, asI_i, seqD_l, seqD_t, lenI1, lenI2, lenI3, lft_some, pure_bind, getE0, getES, List.set_cons_zero, List.set_cons_succ, List.map_cons, List.map_nil, List.cons_append, List.nil_append, List.replicate_succ, List.replicate_zero, List.append_nil, List.length_cons, List.length_nil, if_true, if_false, ite_true, ite_false, Bool.false_eq_true, reduceIte, Bool.not_true, Bool.not_false, Nat.reduceAdd, Nat.reduceSub, List.zip_cons_cons, List.zip_nil_right, List.foldl_cons, List.foldl_nil, g, i0', s1, s2, p]
  | succ e =>
    have i0 := ix (e + 1) (by omega)
    have g : gtD (.int ((e + 1 : Nat) : Int)) (.int 0) = some (.bool true) := by rw [gtD_int, decide_eq_true (by omega)]
    show _ = pure (Fl.rt (encP (tb (e + 1))))
    generalize encP (tb (e + 1)) = t0 at *
    generalize tbs (e + 1 + 1) = tt at *
    simp only [mSeq, mIfS, mRet, mRetN, mPass, mOrT, mAndT, mNotT, mAsB, mIsi, mName, mOwn, mC, mOp, mOp3, mCl, mCons, mNil, mFrz, mFrzD, mSeqI, mCall, mAndV, mOrV, mNotV, mIfE, mTup, mLst, mSet, mSetF, mSetD, mPar, mUn, mUn', mCut, mP, mNoP, mIsN, mIsNot, mRng, mKeys, mYes, gSet, gTupD, gsCons, gsNil, mFz, mDrop, mAsg, mAppend, ev0, frzAt, wipeE, rdV_vl, rdB_vl, rdB_ol, rdB_od, asB_b, asI_i, seqD_l, seqD_t, lenI1, lenI2, lenI3, lft_some, pure_bind, getE0, getES, List.set_cons_zero, List.set_cons_succ, List.map_cons, List.map_nil, List.cons_append, List.nil_append, List.replicate_succ, List.replicate_zero, List.append_nil, List.length_cons, List.length_nil, if_true, if_false, ite_true, ite_false, Bool.false_eq_true, reduceIte, Bool.not_true, Bool.not_false, Nat.reduceAdd, Nat.reduceSub, List.zip_cons_cons, List.zip_nil_right, List.foldl_cons, List.foldl_nil, g, i0]
end K30
end

section
set_option Elab.async false
set_option linter.all false
set_option maxRecDepth 100000
set_option maxHeartbeats 1000000
namespace K30
open PySem PySem.Spec PyProof.Rows L2 DL PL
theorem sbl_ok {e : Nat} (he : e < 16) : (∀ x ∈ sbl e, Q 12252240 12 x.2) ∧ (sbl e).length ≤ 9 ∧ ∀ x ∈ sbl e, 0 ≤ x.1 ∧ x.1 ≤ 16 := by
  cases e with
  | zero => exact ⟨qB_ok (by decide +kernel), by decide, by decide⟩
  | succ e =>
    have t := nx_ok he
    exact ⟨t.q, t.l, t.r⟩
/-- what may be summed below -/
structure Pin (D : Nat) (P : Po) : Prop where
  D0 : 0 < D
  D1 : D < 2 ^ 40
  q : ∀ e ∈ P, Q D 100 e.2
  r : ∀ e ∈ P, 0 ≤ e.1 ∧ e.1 ≤ 15
  len : P.length ≤ 17
structure Sg (D : Nat) (P : Po) (j : Nat) (G : Po) : Prop where
  cf : IsCf (smL (P.take j)) G
  q : ∀ e ∈ G, Q (D * 12252240) (5000 + 11000 * j) e.2
  r : ∀ e ∈ G, 0 ≤ e.1 ∧ e.1 ≤ 16
theorem Pin.N {D : Nat} {P : Po} (h : Pin D P) : 0 < D * 12252240 ∧ D * 12252240 < 2 ^ 64 := ⟨Nat.mul_pos h.D0 (by decide), by
  have : D * 12252240 < 2 ^ (40 + 24) := mul_lt h.D1 (by decide)
  exact this⟩
theorem p400 {a : Nat} (h : a < 2 ^ 64) : a < 2 ^ 400 := Nat.lt_trans h (Nat.pow_lt_pow_right (by decide) (by decide))
theorem sg_step {D : Nat} {P : Po} (h : Pin D P) {j : Nat} {e : Int × Rat} (he : P[j]? = some e) {G : Po} (hG : Sg D P j G) : ∃ SP G', Sg D P (j + 1) G' ∧ mf_sum_below [.int e.1] = pure (encP (sbl e.1.toNat)) ∧ mf_poly_scaled [fr e.2, encP (sbl e.1.toNat)] = pure (encP SP) ∧ mf_poly_sum [encP G, encP SP] = pure (encP G') := by
  obtain ⟨hj, ej⟩ := List.getElem?_eq_some_iff.mp he
  have hm : e ∈ P := List.mem_of_getElem? he
  have hr := h.r e hm
  obtain ⟨b1, b2, b3⟩ := sbl_ok (e := e.1.toNat) (by omega)
  have hN := h.N
  have hl := h.len
  have t := sum_below_ok (e := e.1.toNat) (by omega)
  rw [show ((e.1.toNat : Nat) : Int) = e.1 by omega] at t
  have qe := h.q e hm
  have ls : (scaled e.2 (sbl e.1.toNat)).length ≤ 9 := by rw [sc_len]; exact b2
  obtain ⟨SP, p1⟩ := put_ex (N := D * 12252240) (k := 112) (m := 4000) (L := scaled e.2 (sbl e.1.toNat)) ⟨hN.1, p400 hN.2, by decide, by omega, fun x hx => by
    obtain ⟨y, hy, rfl⟩ := List.mem_map.mp hx
    exact qe.mul (b1 y hy), by omega⟩ (by omega)
  have lg := can_len hG.cf.can hG.r
  have l1 := p1.len
  have la : (G ++ SP).length ≤ 26 := by rw [List.length_append]; omega
  obtain ⟨G', p2⟩ := put_ex (N := D * 12252240) (k := 5000 + 11000 * j) (m := 5000 + 11000 * (j + 1)) (L := G ++ SP) ⟨hN.1, p400 hN.2, by omega, by omega, app_q hG.q fun x hx => (p1.q x hx).mono (by omega), by omega⟩ (by omega)
  have be : Bg e.2 := q_bg qe h.D0 (Nat.lt_trans h.D1 (Nat.pow_lt_pow_right (by decide) (by decide))) (by decide) (by decide)
  refine ⟨SP, G', ⟨⟨p2.cf.can, fun i => ?_⟩, p2.q, fun x hx => ?_⟩, t, pscaled_ok be (bg_small b1 (by decide) (Nat.lt_trans (show 12252240 < 2 ^ 24 by decide) (Nat.pow_lt_pow_right (by decide) (by decide))) (by decide) (by decide)) p1, psum_ok p2⟩
  · rw [p2.cf.eq, co_app, hG.cf.eq, p1.cf.eq, List.take_succ, he]
    show _ = co (smL (P.take j ++ [e])) i
    rw [smL_app, co_app]
    show _ = _ + co (scaled e.2 (sbl e.1.toNat) ++ []) i
    rw [List.append_nil]
  · obtain ⟨y, hy, z⟩ := PL.Can.keys p2.cf x hx
    rw [← z]
    rcases List.mem_append.mp hy with hy | hy
    · exact hG.r y hy
    · obtain ⟨w, hw, z2⟩ := PL.Can.keys p1.cf y hy
      rw [← z2]
      obtain ⟨v, hv, rfl⟩ := List.mem_map.mp hw
      exact b3 v hv
theorem summed_ok {D : Nat} {P : Po} (h : Pin D P) : ∃ G, Sg D P P.length G ∧ mf_summed_below [encP P] = pure (encP G) := by
  have h0 : Sg D P 0 [] := ⟨IsCf.self ⟨List.Pairwise.nil, fun e h => nomatch h⟩, (fun e h => nomatch h), (fun e h => nomatch h)⟩
  obtain ⟨ρ', e1, G, x2, x3, hG, rfl⟩ := for_ix (g := en) (f := fun d ρ => do let ρ' ← gTupD 2 (gsCons (gSet 2) (gsCons (gSet 3) (gsNil))) d ρ; mSet 1 (mCall 2 mf_poly_sum (mCons (mName 1) (mCons (mCall 2 mf_poly_scaled (mCons (mName 3) (mCons (mCall 1 mf_sum_below (mCons (mName 2) (mNil))) (mNil)))) (mNil)))) ρ')
    (S := fun j ρ => ∃ G x2 x3, Sg D P j G ∧ ρ = [.vl (encP P), .vl (encP G), x2, x3]) P (j := 0) (ρ := [.vl (encP P), .vl (encP []), .no, .no]) ⟨_, _, _, h0, rfl⟩ fun i e ρ he ⟨G, x2, x3, hG, hρ⟩ => by
      rw [Nat.zero_add] at hG ⊢
      subst hρ
      obtain ⟨SP, G', hG', t1, t2, t3⟩ := sg_step h he hG
      refine ⟨_, ?_, G', .vl (.int e.1), .vl (fr e.2), hG', rfl⟩
      unfold en
      generalize encP P = p at *
      generalize encP G = g at *
      generalize encP G' = g' at *
      generalize encP SP = sp at *
      generalize encP (sbl e.1.toNat) = sb at *
      simp only [mSeq, mIfS, mRet, mRetN, mPass, mOrT, mAndT, mNotT, mAsB, mIsi, mName, mOwn, mC, mOp, mOp3, mCl, mCons, mNil, mFrz, mFrzD, mSeqI, mCall, mAndV, mOrV, mNotV, mIfE, mTup, mLst, mSet, mSetF, mSetD, mPar, mUn, mUn', mCut, mP, mNoP, mIsN, mIsNot, mRng, mKeys, mYes, gSet, gTupD, gsCons, gsNil, mFz, mDrop, mAsg, mAppend, ev0, frzAt, wipeE, rdV_vl, rdB_vl, rdB_ol, rdB_od, asB_b, asI_i, seqD_l, seqD_t, lenI1, lenI2, lenI3, lft_some, pure_bind, getE0, getES, List.set_cons_zero, List.set_cons_succ, List.map_cons, List.map_nil, List.cons_append, List.nil_append, List.replicate_succ, List.replicate_zero, List.append_nil, List.length_cons, List.length_nil, if_true, if_false, ite_true, ite_false, Bool.false_eq_true, reduceIte, Bool.not_true, Bool.not_false, Nat.reduceAdd, Nat.reduceSub, List.zip_cons_cons, List.zip_nil_right, List.foldl_cons, List.foldl_nil, t1, t2, t3]
  rw [Nat.zero_add] at hG
  refine ⟨G, hG, fn_rt ?_⟩
  have s0 : sz ([] : List PyData) = some [] := rfl
  show m_summed_below [.vl (encP P), .no, .no, .no] = _
  unfold m_summed_below
  rw [seq_nx (ρ' := [.vl (encP P), .vl (encP []), .no, .no]) (by
    show mSet 1 (mTup mNil) [.vl (encP P), .no, .no, .no] = pure (.nx [.vl (encP P), .vl (.tuple []), .no, .no])
    generalize encP P = p at *
    simp only [mSeq, mIfS, mRet, mRetN, mPass, mOrT, mAndT, mNotT, mAsB, mIsi, mName, mOwn, mC, mOp, mOp3, mCl, mCons, mNil, mFrz, mFrzD, mSeqI, mCall, mAndV, mOrV, mNotV, mIfE, mTup, mLst, mSet, mSetF, mSetD, mPar, mUn, mUn', mCut, mP, mNoP, mIsN, mIsNot, mRng, mKeys, mYes, gSet, gTupD, gsCons, gsNil, mFz, mDrop, mAsg, mAppend, ev0, frzAt, wipeE, rdV_vl, rdB_vl, rdB_ol, rdB_od, asB_b, asI_i, seqD_l, seqD_t, lenI1, lenI2, lenI3, lft_some, pure_bind, getE0, getES, List.set_cons_zero, List.set_cons_succ, List.map_cons, List.map_nil, List.cons_append, List.nil_append, List.replicate_succ, List.replicate_zero, List.append_nil, List.length_cons, List.length_nil, if_true, if_false, ite_true, ite_false, Bool.false_eq_true, reduceIte, Bool.not_true, Bool.not_false, Nat.reduceAdd, Nat.reduceSub, List.zip_cons_cons, List.zip_nil_right, List.foldl_cons, List.foldl_nil, s0]), seq_nx (for_ok (ds := P.map en) rfl e1)]
  rfl
/-! power_sum -/
structure FoOk (P : Po) : Prop where
  c : Can P
  q : ∀ e ∈ P, Q 87178291200 24 e.2
  l : P.length ≤ 17
  r : ∀ e ∈ P, 0 ≤ e.1 ∧ e.1 ≤ 12
theorem fo_ok {es : List Nat} (h : fnB es = true) : FoOk (fo [(0, 1)] es) := by
  unfold fnB at h
  simp only [Bool.and_eq_true, decide_eq_true_eq] at h
  obtain ⟨⟨⟨h1, h2⟩, h3⟩, h4⟩ := h
  refine ⟨canB_ok h1, qB_ok h2, h3, fun e he => ?_⟩
  have := List.all_eq_true.mp h4 e he
  simp only [Bool.and_eq_true, decide_eq_true_eq] at this
  exact this
theorem hr_pin {P : Po} (h : FoOk P) {e : Nat} (he : e ≤ 3) : Pin 87178291200 (hr P e) ∧ mf_poly_times [encP P, encP [((e : Int), 1)]] = pure (encP (hr P e)) := by
  have hq : ∀ x ∈ hr P e, Q 87178291200 24 x.2 := fun x hx => by
    rw [hr_map] at hx
    obtain ⟨y, hy, rfl⟩ := List.mem_map.mp hx
    show Q _ _ (y.2 * 1)
    rw [Rat.mul_one]
    exact h.q y hy
  have hl : (hr P e).length ≤ 17 := by rw [hr_map, List.length_map]; exact h.l
  have c40 : 87178291200 < 2 ^ 40 := by decide
  refine ⟨⟨by decide, c40, fun x hx => (hq x hx).mono (by decide), fun x hx => ?_, hl⟩, ?_⟩
  · rw [hr_map] at hx
    obtain ⟨y, hy, rfl⟩ := List.mem_map.mp hx
    have := h.r y hy
    show 0 ≤ y.1 + (e : Int) ∧ y.1 + (e : Int) ≤ 15
    omega
  · have c0 : 87178291200 < 2 ^ 400 := Nat.lt_trans c40 (Nat.pow_lt_pow_right (by decide) (by decide))
    have b1 : ∀ x ∈ [((e : Int), (1 : Rat))], Bg x.2 := fun x hx => by
      rw [List.mem_singleton.mp hx]
      exact ⟨show (1 : Rat).den < 2 ^ 400 from Nat.one_lt_two_pow (by decide), show (1 : Rat).num.natAbs.log2 < 400000 by decide +kernel⟩
    have hl' : (timesAll P [((e : Int), 1)]).length ≤ 17 := hl
    exact ptimes_ok (bg_small h.q (by decide) c0 (by decide) (by decide)) b1 (by have := h.l; show P.length * 1 ≤ 60; omega) (show 1 ≤ 60 by decide) (put_eq (N := 87178291200) (k := 24) (m := 10000) ⟨by decide, c0, by decide, by omega, hq, by omega⟩ (by omega) (IsCf.self (hr_can h.c e)))
theorem last_put {H G : Po} (h : Pin 87178291200 H) (hG : Sg 87178291200 H H.length G) : mf_poly_sum [encP G, encP H] = pure (encP (cfP (G ++ H))) := by
  have hN := h.N
  have hl := h.len
  have lg := can_len hG.cf.can hG.r
  have la : (G ++ H).length ≤ 34 := by rw [List.length_append]; omega
  exact psum_ok (put_eq (N := 87178291200 * 12252240) (k := 5000 + 11000 * 17) (m := 300000) ⟨hN.1, p400 hN.2, by decide, by omega, app_q (fun x hx => (hG.q x hx).mono (by omega)) fun x hx => ((h.q x hx).up (Nat.dvd_mul_right _ _)).mono (by decide), by omega⟩ (by omega) (cfP_ok _))
end K30
end

section
set_option Elab.async false
set_option linter.all false
set_option maxRecDepth 100000
set_option maxHeartbeats 1000000
namespace K30
open PySem PySem.Spec PyProof.Rows L2 DL PL
theorem enumF_zip {α : Type} (g : α → PyData) : ∀ (as : List α) (k : Nat), enumF k (as.map g) = (as.zipIdx k).map fun p => PyData.tuple [.int (p.2 : Nat), g p.1]
  | [], _ => rfl
  | a :: as, k => by
    rw [List.map_cons, List.zipIdx_cons, List.map_cons]
    show _ :: enumF (k + 1) _ = _
    rw [enumF_zip g as (k + 1)]
def nums (tup : Bool) (es : List Nat) : PyData := if tup = true then .tuple (es.map fun (e : Nat) => PyData.int (e : Int)) else .list (es.map fun (e : Nat) => PyData.int (e : Int))
def stt (es : List Nat) (j : Nat) : Po := if j < es.length then fo [(0, 1)] (es.take j) else told0 es
theorem take_snoc {es : List Nat} {i a : Nat} (h : es[i]? = some a) : es.take (i + 1) = es.take i ++ [a] := by
  rw [List.take_succ, h]; rfl
theorem power_ok {es : List Nat} (hes : ∀ e ∈ es, e ≤ 3) (hl : es.length ≤ 4) (hfn : ∀ j, j < es.length → fnB (es.take j) = true) (tup : Bool) : mf_power_sum [nums tup es] = pure (encP (told0 es)) := by
  have le : lenD [nums tup es] = some (.int es.length) := by
    cases tup
    · show some (PyData.int ((es.map fun (e : Nat) => PyData.int (e : Int)).length : Nat)) = _; rw [List.length_map]
    · show some (PyData.int ((es.map fun (e : Nat) => PyData.int (e : Int)).length : Nat)) = _; rw [List.length_map]
  have sq : seqD (nums tup es) = some (es.map fun (e : Nat) => PyData.int (e : Int)) := by cases tup <;> rfl
  obtain ⟨ρ', e1, x2, x3, x4, rfl⟩ := for_ix (g := fun p : Nat × Nat => PyData.tuple [.int (p.2 : Nat), .int (p.1 : Nat)]) (f := fun d ρ => do let ρ' ← gTupD 2 (gsCons (gSet 2) (gsCons (gSet 3) (gsNil))) d ρ; (mSeq (mSet 4 (mCall 2 mf_poly_times (mCons (mName 1) (mCons (mTup (mCons (mTup (mCons (mName 3) (mCons (mC c_ONE) (mNil)))) (mNil))) (mNil))))) (mSeq (mSet 1 (mCall 1 mf_summed_below (mCons (mName 4) (mNil)))) (mIfS (mAsB (mOp eqD (mName 2) (mOp subD (mCl lenD (mCons (mName 0) (mNil))) (mC (.int 1))))) (mSet 1 (mCall 2 mf_poly_sum (mCons (mName 1) (mCons (mName 4) (mNil))))) (mPass)))) ρ')
    (S := fun j ρ => ∃ x2 x3 x4, ρ = [.vl (nums tup es), .vl (encP (stt es j)), x2, x3, x4]) (es.zipIdx 0) (j := 0) (ρ := [.vl (nums tup es), .vl (encP (stt es 0)), .no, .no, .no]) ⟨_, _, _, rfl⟩ fun i p ρ hp ⟨x2, x3, x4, hρ⟩ => by
      rw [Nat.zero_add] at hρ ⊢
      rw [List.getElem?_zipIdx, Nat.zero_add] at hp
      obtain ⟨a, ha, rfl⟩ := Option.map_eq_some_iff.mp hp
      obtain ⟨hi, ea⟩ := List.getElem?_eq_some_iff.mp ha
      subst hρ
      have he := hes a (List.mem_of_getElem? ha)
      have hF := fo_ok (hfn i hi)
      obtain ⟨pin, t1⟩ := hr_pin hF he
      obtain ⟨G, hG, t2⟩ := summed_ok pin
      have eG : G = cfP (smL (hr (fo [(0, 1)] (es.take i)) a)) := by
        have := hG.cf
        rw [List.take_length] at this
        exact this.uniq (cfP_ok _) fun _ => rfl
      have t3 := last_put pin hG
      have st0 : stt es i = fo [(0, 1)] (es.take i) := if_pos hi
      refine ⟨[.vl (nums tup es), .vl (encP (stt es (i + 1))), .vl (.int (i : Nat)), .vl (.int (a : Nat)), .vl (encP (hr (fo [(0, 1)] (es.take i)) a))], ?_, _, _, _, rfl⟩
      have e4 : encP [((a : Int), (1 : Rat))] = .tuple [.tuple [.int (a : Nat), c_ONE]] := by
        show PyData.tuple [.tuple [.int (a : Nat), fr 1]] = _
        rw [← one_fr]
      rw [e4] at t1
      have sb : subD (.int (es.length : Nat)) (.int 1) = some (.int ((es.length : Int) - 1)) := rfl
      have q := eqD_int (i : Int) ((es.length : Int) - 1)
      rw [st0]
      by_cases hlast : i + 1 = es.length
      · rw [decide_eq_true (by omega)] at q
        have st1 : stt es (i + 1) = cfP (G ++ hr (fo [(0, 1)] (es.take i)) a) := by
          have e5 : es = es.take i ++ [a] := by
            rw [← take_snoc ha, hlast, List.take_length]
          show (if i + 1 < es.length then _ else told0 es) = _
          rw [if_neg (by omega), eG]
          unfold told0
          conv => lhs; rw [e5, tl_app]
        rw [st1]
        generalize encP (cfP (G ++ hr (fo [(0, 1)] (es.take i)) a)) = r at *
        generalize encP (hr (fo [(0, 1)] (es.take i)) a) = h at *
        generalize encP (fo [(0, 1)] (es.take i)) = f at *
        generalize encP G = g at *
        generalize nums tup es = nn at *
        simp only [mSeq, mIfS, mRet, mRetN, mPass, mOrT, mAndT, mNotT, mAsB, mIsi, mName, mOwn, mC, mOp, mOp3, mCl, mCons, mNil, mFrz, mFrzD, mSeqI, mCall, mAndV, mOrV, mNotV, mIfE, mTup, mLst, mSet, mSetF, mSetD, mPar, mUn, mUn', mCut, mP, mNoP, mIsN, mIsNot, mRng, mKeys, mYes, gSet, gTupD, gsCons, gsNil, mFz, mDrop, mAsg, mAppend, ev0, frzAt, wipeE, rdV_vl, rdB_vl, rdB_ol, rdB_od, asB_b, asI_i, seqD_l, seqD_t, lenI1, lenI2, lenI3, lft_some, pure_bind, getE0, getES, List.set_cons_zero, List.set_cons_succ, List.map_cons, List.map_nil, List.cons_append, List.nil_append, List.replicate_succ, List.replicate_zero, List.append_nil, List.length_cons, List.length_nil, if_true, if_false, ite_true, ite_false, Bool.false_eq_true, reduceIte, Bool.not_true, Bool.not_false, Nat.reduceAdd, Nat.reduceSub, List.zip_cons_cons, List.zip_nil_right, List.foldl_cons, List.foldl_nil, s1, s2, le, sb, q, t1, t2, t3]
      · rw [decide_eq_false (by omega)] at q
        have st1 : stt es (i + 1) = G := by
          show (if i + 1 < es.length then _ else told0 es) = _
          rw [if_pos (by omega), take_snoc ha, eG]
          unfold fo
          rw [List.foldl_append]; rfl
        rw [st1]
        clear t3
        generalize encP (hr (fo [(0, 1)] (es.take i)) a) = h at *
        generalize encP (fo [(0, 1)] (es.take i)) = f at *
        generalize encP G = g at *
        generalize nums tup es = nn at *
        simp only [mSeq, mIfS, mRet, mRetN, mPass, mOrT, mAndT, mNotT, mAsB, mIsi, mName, mOwn, mC, mOp, mOp3, mCl, mCons, mNil, mFrz, mFrzD, mSeqI, mCall, mAndV, mOrV, mNotV, mIfE, mTup, mLst, mSet, mSetF, mSetD, mPar, mUn, mUn', mCut, mP, mNoP, mIsN, mIsNot, mRng, mKeys, mYes, gSet, gTupD, gsCons, gsNil, mFz, mDrop, mAsg, mAppend, ev0, frzAt, wipeE, rdV_vl, rdB_vl, rdB_ol, rdB_od, asB_b, asI_i, seqD_l, seqD_t, lenI1, lenI2, lenI3, lft_some, pure_bind, getE0, getES, List.set_cons_zero, List.set_cons_succ, List.map_cons, List.map_nil, List.cons_append, List.nil_append, List.replicate_succ, List.replicate_zero, List.append_nil, List.length_cons, List.length_nil, if_true, if_false, ite_true, ite_false, Bool.false_eq_true, reduceIte, Bool.not_true, Bool.not_false, Nat.reduceAdd, Nat.reduceSub, List.zip_cons_cons, List.zip_nil_right, List.foldl_cons, List.foldl_nil, s1, s2, le, sb, q, t1, t2]
  rw [List.length_zipIdx, Nat.zero_add] at e1
  have fin : stt es es.length = told0 es := if_neg (Nat.lt_irrefl _)
  rw [fin] at e1
  have ini : encP (stt es 0) = .tuple [.tuple [.int 0, c_ONE]] := by
    have : stt es 0 = [(0, 1)] := by
      cases es with
      | nil => rfl
      | cons a es => exact if_pos (Nat.succ_pos _)
    rw [this, one_fr]; rfl
  rw [ini] at e1
  refine fn_rt ?_
  show m_power_sum [.vl (nums tup es), .no, .no, .no, .no] = _
  unfold m_power_sum
  have mi : mEnumA (mName 0) [.vl (nums tup es), .vl (.tuple [.tuple [.int 0, c_ONE]]), .no, .no, .no] = pure ((es.zipIdx 0).map fun p : Nat × Nat => PyData.tuple [.int (p.2 : Nat), .int (p.1 : Nat)]) := by
    rw [← enumF_zip (fun (e : Nat) => PyData.int (e : Int)) es 0]
    show ((lft (seqD (nums tup es)) : M (List PyData)) >>= fun ds => pure (enumF 0 ds)) = _
    rw [sq]; rfl
  rw [seq_nx (ρ' := [.vl (nums tup es), .vl (.tuple [.tuple [.int 0, c_ONE]]), .no, .no, .no]) (by
    generalize nums tup es = nn at *
    simp only [mSeq, mIfS, mRet, mRetN, mPass, mOrT, mAndT, mNotT, mAsB, mIsi, mName, mOwn, mC, mOp, mOp3, mCl, mCons, mNil, mFrz, mFrzD, mSeqI, mCall, mAndV, mOrV, mNotV, mIfE, mTup, mLst, mSet, mSetF, mSetD, mPar, mUn, mUn', mCut, mP, mNoP, mIsN, mIsNot, mRng, mKeys, mYes, gSet, gTupD, gsCons, gsNil, mFz, mDrop, mAsg, mAppend, ev0, frzAt, wipeE, rdV_vl, rdB_vl, rdB_ol, rdB_od, asB_b, asI_i, seqD_l, seqD_t, lenI1, lenI2, lenI3, lft_some, pure_bind, getE0, getES, List.set_cons_zero, List.set_cons_succ, List.map_cons, List.map_nil, List.cons_append, List.nil_append, List.replicate_succ, List.replicate_zero, List.append_nil, List.length_cons, List.length_nil, if_true, if_false, ite_true, ite_false, Bool.false_eq_true, reduceIte, Bool.not_true, Bool.not_false, Nat.reduceAdd, Nat.reduceSub, List.zip_cons_cons, List.zip_nil_right, List.foldl_cons, List.foldl_nil, s1, s2]), seq_nx (for_ok mi e1)]
  rfl
end K30
end

section
set_option Elab.async false
set_option linter.all false
set_option maxRecDepth 100000
set_option maxHeartbeats 1000000
namespace K30
open PySem PySem.Spec PyProof.Rows L2 DL PL
abbrev enI (xs : List Int) : PyData := .tuple (xs.map PyData.int)
abbrev enW (p : List Int × Int) : PyData := .tuple [enI p.1, .int p.2]
def mxI (xs : List Int) : Int := (xs ++ [0]).foldl max 0
theorem fold_max_ge : ∀ (xs : List Int) (a : Int), a ≤ xs.foldl max a
  | [], a => Int.le_refl a
  | x :: xs, a => Int.le_trans (Int.le_max_left a x) (fold_max_ge xs (max a x))
theorem mxI_nn (xs : List Int) : 0 ≤ mxI xs := fold_max_ge _ 0
theorem fold_max_le {b : Int} : ∀ (xs : List Int) (a : Int), a ≤ b → (∀ x ∈ xs, x ≤ b) → xs.foldl max a ≤ b
  | [], a, h, _ => h
  | x :: xs, a, h, hx => fold_max_le xs (max a x) (Int.max_le.mpr ⟨h, hx x List.mem_cons_self⟩) fun y hy => hx y (List.mem_cons_of_mem _ hy)
theorem max_ok {xs : List Int} (h : ∀ x ∈ xs, 0 ≤ x) : maxTD [.tuple (xs.map PyData.int ++ [.int 0])] = some (.int (mxI xs)) := by
  have e : xs.map PyData.int ++ [.int 0] = (xs ++ [0]).map PyData.int := by rw [List.map_append]; rfl
  rw [e]
  show ((intsOf ((xs ++ [0]).map PyData.int)).bind _) = _
  rw [intsOf_ints]
  unfold mxI
  cases xs with
  | nil => rfl
  | cons x xs =>
    show some (PyData.int ((xs ++ [0]).foldl max x)) = some (PyData.int ((xs ++ [0]).foldl max (max 0 x)))
    rw [Int.max_eq_right (h x List.mem_cons_self)]
theorem cut_last (ds : List PyData) : cutP ds (some (-1)) none = ds.drop (ds.length - 1) := by
  unfold cutP
  have h : HT.sIx ds.length 0 (some (-1)) = ds.length - 1 := by
    unfold HT.sIx
    simp
    omega
  rw [h, HT.sIx_none, List.take_of_length_le]
  rw [List.length_drop]
  exact Nat.le_refl _
/-- one pair's turn -/
def wB : Ev → M Fl := (mSeq (mSet 8 (mName 6)) (mSeq (mFor (mRng rng1D (mCons (mName 3) (mNil))) (gSet 9) (mSet 8 (mOp mulD (mName 8) (mName 7)))) (mAppend 4 (mTup (mCons (mOp addD (mCut cutD (mName 5) (mP (mUn negD (mC (.int 1)))) (mNoP)) (mTup (mCons (mName 7) (mNil)))) (mCons (mName 8) (mNil)))))))
theorem wB_ok {e : Nat} {xs : List Int} {p x : Int} (he : e ≤ 1000) (hl : xs.length ≤ 10) (hx : x.natAbs < 1000) {L : List PyData} (hL : L.length < 900000) (x0 x1 x2 y8 y9 : Sl) :
    ∃ z8 z9, wB [x0, x1, x2, .vl (.int (e : Nat)), .ol L, .vl (enI xs), .vl (.int p), .vl (.int x), y8, y9] = pure (.nx [x0, x1, x2, .vl (.int (e : Nat)), .ol (L ++ [enW (xs.drop (xs.length - 1) ++ [x], p * x ^ e)]), .vl (enI xs), .vl (.int p), .vl (.int x), z8, z9]) := by
  have hr : rng1D [.int (e : Nat)] = some (rngD 0 e) := by rw [rng1D_ok (by omega) (by omega)]; rfl
  obtain ⟨ρ', e1, y, rfl⟩ := for_rng (n := e) (f := fun d ρ => do let ρ' ← gSet 9 d ρ; mSet 8 (mOp mulD (mName 8) (mName 7)) ρ') (S := fun t ρ => ∃ y, ρ = [x0, x1, x2, .vl (.int (e : Nat)), .ol L, .vl (enI xs), .vl (.int p), .vl (.int x), .vl (.int (p * x ^ t)), y]) (ρ := [x0, x1, x2, .vl (.int (e : Nat)), .ol L, .vl (enI xs), .vl (.int p), .vl (.int x), .vl (.int p), y9]) ⟨y9, by rw [Int.pow_zero, Int.mul_one]⟩ fun i ρ hi ⟨y, hρ⟩ => by
    subst hρ
    refine ⟨_, ?_, .vl (.int (i : Nat)), rfl⟩
    have m : mulD (.int (p * x ^ i)) (.int x) = some (.int (p * x ^ (i + 1))) := by
      rw [mulD_ok (.inl (by omega)), Int.pow_succ, Int.mul_assoc]
    simp only [mSeq, mIfS, mRet, mRetN, mPass, mOrT, mAndT, mNotT, mAsB, mIsi, mName, mOwn, mC, mOp, mOp3, mCl, mCons, mNil, mFrz, mFrzD, mSeqI, mCall, mAndV, mOrV, mNotV, mIfE, mTup, mLst, mSet, mSetF, mSetD, mPar, mUn, mUn', mCut, mP, mNoP, mIsN, mIsNot, mRng, mKeys, mYes, gSet, gTupD, gsCons, gsNil, mFz, mDrop, mAsg, mAppend, ev0, frzAt, wipeE, rdV_vl, rdB_vl, rdB_ol, rdB_od, asB_b, asI_i, seqD_l, seqD_t, lenI1, lenI2, lenI3, lft_some, pure_bind, getE0, getES, List.set_cons_zero, List.set_cons_succ, List.map_cons, List.map_nil, List.cons_append, List.nil_append, List.replicate_succ, List.replicate_zero, List.append_nil, List.length_cons, List.length_nil, if_true, if_false, ite_true, ite_false, Bool.false_eq_true, reduceIte, Bool.not_true, Bool.not_false, Nat.reduceAdd, Nat.reduceSub, List.zip_cons_cons, List.zip_nil_right, List.foldl_cons, List.foldl_nil, m]
  refine ⟨.vl (.int (p * x ^ e)), y, ?_⟩
  unfold wB
  rw [seq_nx (ρ' := [x0, x1, x2, .vl (.int (e : Nat)), .ol L, .vl (enI xs), .vl (.int p), .vl (.int x), .vl (.int p), y9]) rfl, seq_nx (for_ok (ds := rngD 0 e) (by simp only [mSeq, mIfS, mRet, mRetN, mPass, mOrT, mAndT, mNotT, mAsB, mIsi, mName, mOwn, mC, mOp, mOp3, mCl, mCons, mNil, mFrz, mFrzD, mSeqI, mCall, mAndV, mOrV, mNotV, mIfE, mTup, mLst, mSet, mSetF, mSetD, mPar, mUn, mUn', mCut, mP, mNoP, mIsN, mIsNot, mRng, mKeys, mYes, gSet, gTupD, gsCons, gsNil, mFz, mDrop, mAsg, mAppend, ev0, frzAt, wipeE, rdV_vl, rdB_vl, rdB_ol, rdB_od, asB_b, asI_i, seqD_l, seqD_t, lenI1, lenI2, lenI3, lft_some, pure_bind, getE0, getES, List.set_cons_zero, List.set_cons_succ, List.map_cons, List.map_nil, List.cons_append, List.nil_append, List.replicate_succ, List.replicate_zero, List.append_nil, List.length_cons, List.length_nil, if_true, if_false, ite_true, ite_false, Bool.false_eq_true, reduceIte, Bool.not_true, Bool.not_false, Nat.reduceAdd, Nat.reduceSub, List.zip_cons_cons, List.zip_nil_right, List.foldl_cons, List.foldl_nil, hr]) e1)]
  have c : cutD (enI xs) (some (-1)) none = some (enI (xs.drop (xs.length - 1))) := by
    show some (PyData.tuple (cutP (xs.map PyData.int) (some (-1)) none)) = _
    rw [cut_last, List.length_map, ← List.map_drop]
  have a : addD (enI (xs.drop (xs.length - 1))) (.tuple [.int x]) = some (enI (xs.drop (xs.length - 1) ++ [x])) := by
    unfold enI
    rw [List.map_append]
    exact if_pos (by rw [List.length_map, List.length_drop]; show _ + 1 ≤ 1000000; omega)
  have n1 : negD (.int 1) = some (.int (-1)) := rfl
  have v : mTup (mCons (mOp addD (mCut cutD (mName 5) (mP (mUn negD (mC (.int 1)))) (mNoP)) (mTup (mCons (mName 7) (mNil)))) (mCons (mName 8) (mNil))) [x0, x1, x2, .vl (.int (e : Nat)), .ol L, .vl (enI xs), .vl (.int p), .vl (.int x), .vl (.int (p * x ^ e)), y] = pure (enW (xs.drop (xs.length - 1) ++ [x], p * x ^ e)) := by
    show _ = pure (PyData.tuple [enI (xs.drop (xs.length - 1) ++ [x]), .int (p * x ^ e)])
    generalize enI (xs.drop (xs.length - 1) ++ [x]) = q1 at *
    generalize enI (xs.drop (xs.length - 1)) = q2 at *
    generalize enI xs = q3 at *
    simp only [mSeq, mIfS, mRet, mRetN, mPass, mOrT, mAndT, mNotT, mAsB, mIsi, mName, mOwn, mC, mOp, mOp3, mCl, mCons, mNil, mFrz, mFrzD, mSeqI, mCall, mAndV, mOrV, mNotV, mIfE, mTup, mLst, mSet, mSetF, mSetD, mPar, mUn, mUn', mCut, mP, mNoP, mIsN, mIsNot, mRng, mKeys, mYes, gSet, gTupD, gsCons, gsNil, mFz, mDrop, mAsg, mAppend, ev0, frzAt, wipeE, rdV_vl, rdB_vl, rdB_ol, rdB_od, asB_b, asI_i, seqD_l, seqD_t, lenI1, lenI2, lenI3, lft_some, pure_bind, getE0, getES, List.set_cons_zero, List.set_cons_succ, List.map_cons, List.map_nil, List.cons_append, List.nil_append, List.replicate_succ, List.replicate_zero, List.append_nil, List.length_cons, List.length_nil, if_true, if_false, ite_true, ite_false, Bool.false_eq_true, reduceIte, Bool.not_true, Bool.not_false, Nat.reduceAdd, Nat.reduceSub, List.zip_cons_cons, List.zip_nil_right, List.foldl_cons, List.foldl_nil, n1, c, a, s1, s2]
  have o : olAt [x0, x1, x2, .vl (.int (e : Nat)), .ol L, .vl (enI xs), .vl (.int p), .vl (.int x), .vl (.int (p * x ^ e)), y] 4 = some L := rfl
  unfold mAppend
  rw [o, v]
  show ((lft (some L) : M (List PyData)) >>= _) = _
  rw [lft_some, pure_bind, pure_bind, show szI L.length (L ++ [enW (xs.drop (xs.length - 1) ++ [x], p * x ^ e)]) = some (L ++ [enW (xs.drop (xs.length - 1) ++ [x], p * x ^ e)]) from if_pos (by omega)]
  rfl
/-- the pairs that stand -/
structure Wn (s n : Nat) (w : List (List Int × Int)) : Prop where
  p : ∀ q ∈ w, q.1.length ≤ 2 ∧ ∀ x ∈ q.1, 0 ≤ x ∧ x ≤ s
  l : w.length ≤ 12 ^ n
def itW (s e : Nat) (p : List Int × Int) : List (List Int × Int) := (List.range (s - (mxI p.1).toNat)).map fun (k : Nat) => (p.1.drop (p.1.length - 1) ++ [1 + mxI p.1 + (k : Int)], p.2 * (1 + mxI p.1 + (k : Int)) ^ e)
theorem stepW_eq (s e : Nat) (w : List (List Int × Int)) : stepW s e w = w.flatMap (itW s e) := rfl
theorem itW_len (s e : Nat) (p : List Int × Int) : (itW s e p).length ≤ s := by
  unfold itW
  rw [List.length_map, List.length_range]; omega
theorem flat_len {s e : Nat} (hs : s ≤ 12) : ∀ w : List (List Int × Int), (w.flatMap (itW s e)).length ≤ w.length * 12
  | [] => Nat.le_refl 0
  | p :: w => by
    rw [List.flatMap_cons, List.length_append, List.length_cons, Nat.succ_mul]
    have := itW_len s e p
    have := flat_len hs w (e := e)
    omega
theorem Wn.step {s n e : Nat} {w : List (List Int × Int)} (h : Wn s n w) (hs : s ≤ 12) : Wn s (n + 1) (stepW s e w) := by
  refine ⟨fun q hq => ?_, ?_⟩
  · rw [stepW_eq] at hq
    obtain ⟨p, hp, hq⟩ := List.mem_flatMap.mp hq
    obtain ⟨k, hk, rfl⟩ := List.mem_map.mp hq
    have hk' := List.mem_range.mp hk
    have hp' := h.p p hp
    have hm := mxI_nn p.1
    refine ⟨?_, fun x hx => ?_⟩
    · show (p.1.drop (p.1.length - 1) ++ [_]).length ≤ 2
      rw [List.length_append, List.length_drop, List.length_singleton]; omega
    · rcases List.mem_append.mp hx with hx | hx
      · exact hp'.2 x (List.mem_of_mem_drop hx)
      · rw [List.mem_singleton.mp hx]; omega
  · rw [stepW_eq, Nat.pow_succ]
    exact Nat.le_trans (flat_len hs w) (Nat.mul_le_mul_right 12 h.l)
theorem pair_ok {s e : Nat} {p : List Int × Int} (he : e ≤ 1000) (hs : s ≤ 12) (hp : p.1.length ≤ 2 ∧ ∀ x ∈ p.1, 0 ≤ x ∧ x ≤ s) {L : List PyData} (hL : L.length ≤ 800000) (x0 x2 y7 y8 y9 : Sl) :
    ∃ z7 z8 z9, mFor (mRng rng2D (mCons (mOp addD (mC (.int 1)) (mCl maxTD (mCons (mOp addD (mName 5) (mTup (mCons (mC (.int 0)) (mNil)))) (mNil)))) (mCons (mOp addD (mName 1) (mC (.int 1))) (mNil)))) (gSet 7) wB [x0, .vl (.int (s : Nat)), x2, .vl (.int (e : Nat)), .ol L, .vl (enI p.1), .vl (.int p.2), y7, y8, y9] = pure (.nx [x0, .vl (.int (s : Nat)), x2, .vl (.int (e : Nat)), .ol (L ++ (itW s e p).map enW), .vl (enI p.1), .vl (.int p.2), z7, z8, z9]) := by
  have hm := mxI_nn p.1
  have hm2 : mxI p.1 ≤ s := fold_max_le _ 0 (by omega) fun x hx => by
    rcases List.mem_append.mp hx with hx | hx
    · exact (hp.2 x hx).2
    · rw [List.mem_singleton.mp hx]; omega
  have a1 : addD (enI p.1) (.tuple [.int 0]) = some (.tuple (p.1.map PyData.int ++ [.int 0])) := if_pos (by rw [List.length_map]; show _ + 1 ≤ 1000000; omega)
  have m1 := max_ok (xs := p.1) fun x hx => (hp.2 x hx).1
  have a2 : addD (.int 1) (.int (mxI p.1)) = some (.int (1 + mxI p.1)) := rfl
  have a3 : addD (.int (s : Nat)) (.int 1) = some (.int ((s : Int) + 1)) := rfl
  have r2 : rng2D [.int (1 + mxI p.1), .int ((s : Int) + 1)] = some ((List.range (s - (mxI p.1).toNat)).map fun (k : Nat) => PyData.int (1 + mxI p.1 + (k : Int))) := by
    rw [rng2D_ok (by omega) (by omega) (by omega) (by omega)]
    show some (rngD (1 + mxI p.1) _) = _
    rw [show ((s : Int) + 1 - (1 + mxI p.1)).toNat = s - (mxI p.1).toNat by omega]; rfl
  obtain ⟨ρ', e1, z7, z8, z9, hρ'⟩ := for_ix (g := fun (k : Nat) => PyData.int (1 + mxI p.1 + (k : Int))) (f := fun d ρ => do let ρ' ← gSet 7 d ρ; wB ρ')
    (S := fun j ρ => ∃ z7 z8 z9, ρ = [x0, .vl (.int (s : Nat)), x2, .vl (.int (e : Nat)), .ol (L ++ ((itW s e p).take j).map enW), .vl (enI p.1), .vl (.int p.2), z7, z8, z9]) (List.range (s - (mxI p.1).toNat)) (j := 0) (ρ := [x0, .vl (.int (s : Nat)), x2, .vl (.int (e : Nat)), .ol L, .vl (enI p.1), .vl (.int p.2), y7, y8, y9]) ⟨y7, y8, y9, by rw [List.take_zero, List.map_nil, List.append_nil]⟩ fun i k ρ hk ⟨z7, z8, z9, hρ⟩ => by
      obtain ⟨rfl, hi⟩ := rng_ix hk
      rw [Nat.zero_add] at hρ ⊢
      subst hρ
      have ll := itW_len s e p
      obtain ⟨w8, w9, e2⟩ := wB_ok (e := e) (xs := p.1) (p := p.2) (x := 1 + mxI p.1 + (k : Int)) he (by omega) (by omega) (L := L ++ ((itW s e p).take k).map enW) (by rw [List.length_append, List.length_map, List.length_take]; omega) x0 (.vl (.int (s : Nat))) x2 z8 z9
      refine ⟨_, gb_ok (ρ1 := [x0, .vl (.int (s : Nat)), x2, .vl (.int (e : Nat)), .ol (L ++ ((itW s e p).take k).map enW), .vl (enI p.1), .vl (.int p.2), .vl (.int (1 + mxI p.1 + (k : Int))), z8, z9]) rfl e2, .vl (.int (1 + mxI p.1 + (k : Int))), w8, w9, ?_⟩
      have hg : (itW s e p)[k]? = some (p.1.drop (p.1.length - 1) ++ [1 + mxI p.1 + (k : Int)], p.2 * (1 + mxI p.1 + (k : Int)) ^ e) := by
        unfold itW
        rw [List.getElem?_map, List.getElem?_range hi]; rfl
      rw [List.take_succ, hg, List.map_append, List.append_assoc]; rfl
  rw [List.length_range, Nat.zero_add] at hρ'
  have lt : (itW s e p).take (s - (mxI p.1).toNat) = itW s e p := List.take_of_length_le (by unfold itW; rw [List.length_map, List.length_range]; exact Nat.le_refl _)
  rw [lt] at hρ'
  subst hρ'
  refine ⟨z7, z8, z9, for_ok ?_ e1⟩
  generalize (List.range (s - (mxI p.1).toNat)).map (fun (k : Nat) => PyData.int (1 + mxI p.1 + (k : Int))) = rr at *
  generalize (PyData.tuple (p.1.map PyData.int ++ [.int 0])) = q at *
  generalize enI p.1 = q3 at *
  simp only [mSeq, mIfS, mRet, mRetN, mPass, mOrT, mAndT, mNotT, mAsB, mIsi, mName, mOwn, mC, mOp, mOp3, mCl, mCons, mNil, mFrz, mFrzD, mSeqI, mCall, mAndV, mOrV, mNotV, mIfE, mTup, mLst, mSet, mSetF, mSetD, mPar, mUn, mUn', mCut, mP, mNoP, mIsN, mIsNot, mRng, mKeys, mYes, gSet, gTupD, gsCons, gsNil, mFz, mDrop, mAsg, mAppend, ev0, frzAt, wipeE, rdV_vl, rdB_vl, rdB_ol, rdB_od, asB_b, asI_i, seqD_l, seqD_t, lenI1, lenI2, lenI3, lft_some, pure_bind, getE0, getES, List.set_cons_zero, List.set_cons_succ, List.map_cons, List.map_nil, List.cons_append, List.nil_append, List.replicate_succ, List.replicate_zero, List.append_nil, List.length_cons, List.length_nil, if_true, if_false, ite_true, ite_false, Bool.false_eq_true, reduceIte, Bool.not_true, Bool.not_false, Nat.reduceAdd, Nat.reduceSub, List.zip_cons_cons, List.zip_nil_right, List.foldl_cons, List.foldl_nil, a1, m1, a2, a3, r2, s1]
end K30
end

section
set_option Elab.async false
set_option linter.all false
set_option maxRecDepth 100000
set_option maxHeartbeats 1000000
namespace K30
open PySem PySem.Spec PyProof.Rows L2 DL PL
theorem runW_app (s : Nat) : ∀ (es : List Nat) (a : Nat) (w : List (List Int × Int)), runW s (es ++ [a]) w = stepW s a (runW s es w)
  | [], a, w => rfl
  | e :: es, a, w => runW_app s es a (stepW s e w)
theorem pairs_ok {s e n : Nat} {w : List (List Int × Int)} (he : e ≤ 1000) (hs : s ≤ 12) (hn : n ≤ 3) (hw : Wn s n w) (x0 y5 y6 y7 y8 y9 : Sl) :
    ∃ z5 z6 z7 z8 z9, mFor (mSeqI (mName 2)) (gTupD 2 (gsCons (gSet 5) (gsCons (gSet 6) (gsNil)))) (mFor (mRng rng2D (mCons (mOp addD (mC (.int 1)) (mCl maxTD (mCons (mOp addD (mName 5) (mTup (mCons (mC (.int 0)) (mNil)))) (mNil)))) (mCons (mOp addD (mName 1) (mC (.int 1))) (mNil)))) (gSet 7) wB) [x0, .vl (.int (s : Nat)), .vl (.list (w.map enW)), .vl (.int (e : Nat)), .ol [], y5, y6, y7, y8, y9] = pure (.nx [x0, .vl (.int (s : Nat)), .vl (.list (w.map enW)), .vl (.int (e : Nat)), .ol ((stepW s e w).map enW), z5, z6, z7, z8, z9]) := by
  have lw : w.length ≤ 1728 := Nat.le_trans hw.l (Nat.le_trans (Nat.pow_le_pow_right (by decide) hn) (by decide))
  obtain ⟨ρ', e1, z5, z6, z7, z8, z9, hρ'⟩ := for_ix (g := enW) (f := fun d ρ => do let ρ' ← gTupD 2 (gsCons (gSet 5) (gsCons (gSet 6) (gsNil))) d ρ; mFor (mRng rng2D (mCons (mOp addD (mC (.int 1)) (mCl maxTD (mCons (mOp addD (mName 5) (mTup (mCons (mC (.int 0)) (mNil)))) (mNil)))) (mCons (mOp addD (mName 1) (mC (.int 1))) (mNil)))) (gSet 7) wB ρ')
    (S := fun j ρ => ∃ z5 z6 z7 z8 z9, ρ = [x0, .vl (.int (s : Nat)), .vl (.list (w.map enW)), .vl (.int (e : Nat)), .ol (((w.take j).flatMap (itW s e)).map enW), z5, z6, z7, z8, z9]) w (j := 0) (ρ := [x0, .vl (.int (s : Nat)), .vl (.list (w.map enW)), .vl (.int (e : Nat)), .ol [], y5, y6, y7, y8, y9]) ⟨y5, y6, y7, y8, y9, rfl⟩ fun i p ρ hp ⟨z5, z6, z7, z8, z9, hρ⟩ => by
      rw [Nat.zero_add] at hρ ⊢
      subst hρ
      have hm := hw.p p (List.mem_of_getElem? hp)
      have hl : (((w.take i).flatMap (itW s e)).map enW).length ≤ 800000 := by
        rw [List.length_map]
        have h1 := flat_len hs (e := e) (w.take i)
        rw [List.length_take] at h1
        omega
      obtain ⟨w7, w8, w9, e2⟩ := pair_ok he hs hm hl x0 (.vl (.list (w.map enW))) z7 z8 z9
      refine ⟨_, gb_ok (ρ1 := [x0, .vl (.int (s : Nat)), .vl (.list (w.map enW)), .vl (.int (e : Nat)), .ol (((w.take i).flatMap (itW s e)).map enW), .vl (enI p.1), .vl (.int p.2), z7, z8, z9]) rfl e2, .vl (enI p.1), .vl (.int p.2), w7, w8, w9, ?_⟩
      rw [List.take_succ, hp, List.flatMap_append, List.map_append]
      show _ = [x0, _, _, _, Sl.ol (_ ++ (([p].flatMap (itW s e)).map enW)), _, _, _, _, _]
      rw [List.flatMap_cons, List.flatMap_nil, List.append_nil]
  rw [Nat.zero_add, List.take_length] at hρ'
  subst hρ'
  exact ⟨z5, z6, z7, z8, z9, for_ok (ds := w.map enW) rfl e1⟩
theorem powers_ok {es : List Nat} (hes : ∀ e ∈ es, e ≤ 3) (hl : es.length ≤ 4) {s : Nat} (hs : s ≤ 12) : mf_law_powers [nums false es, .int (s : Nat)] = pure (.int (pwrs s es)) := by
  refine fn_rt ?_
  obtain ⟨ρ', e1, z3, z4, z5, z6, z7, z8, z9, hW, rfl⟩ := for_ix (g := fun (e : Nat) => PyData.int (e : Int)) (f := fun d ρ => do let ρ' ← gSet 3 d ρ; (mSeq (mSetF 4 (mLst (mNil))) (mSeq (mFor (mSeqI (mName 2)) (gTupD 2 (gsCons (gSet 5) (gsCons (gSet 6) (gsNil)))) (mFor (mRng rng2D (mCons (mOp addD (mC (.int 1)) (mCl maxTD (mCons (mOp addD (mName 5) (mTup (mCons (mC (.int 0)) (mNil)))) (mNil)))) (mCons (mOp addD (mName 1) (mC (.int 1))) (mNil)))) (gSet 7) wB)) (mSet 2 (mFrz (mCl listL (mCons (mOwn 4) (mNil))))))) ρ')
    (S := fun j ρ => ∃ z3 z4 z5 z6 z7 z8 z9, Wn s j (runW s (es.take j) [([], 1)]) ∧ ρ = [.vl (nums false es), .vl (.int (s : Nat)), .vl (.list ((runW s (es.take j) [([], 1)]).map enW)), z3, z4, z5, z6, z7, z8, z9]) es (j := 0) (ρ := [.vl (nums false es), .vl (.int (s : Nat)), .vl (.list [enW ([], 1)]), .no, .no, .no, .no, .no, .no, .no]) ⟨.no, .no, .no, .no, .no, .no, .no, ⟨fun q hq => by
      rw [List.take_zero] at hq
      rw [List.mem_singleton.mp hq]
      exact ⟨Nat.zero_le _, fun x hx => nomatch hx⟩, by rw [List.take_zero]; exact Nat.le_refl 1⟩, by rw [List.take_zero]; rfl⟩ fun i a ρ ha ⟨z3, z4, z5, z6, z7, z8, z9, hW, hρ⟩ => by
      rw [Nat.zero_add] at hW hρ ⊢
      subst hρ
      obtain ⟨hi, _⟩ := List.getElem?_eq_some_iff.mp ha
      have he := hes a (List.mem_of_getElem? ha)
      have hn := hW.step (e := a) hs
      rw [← runW_app, ← take_snoc ha] at hn
      obtain ⟨y5, y6, y7, y8, y9, e2⟩ := pairs_ok (e := a) (by omega) hs (by omega) hW (.vl (nums false es)) z5 z6 z7 z8 z9
      rw [← runW_app, ← take_snoc ha] at e2
      refine ⟨[.vl (nums false es), .vl (.int (s : Nat)), .vl (.list ((runW s (es.take (i + 1)) [([], 1)]).map enW)), .vl (.int (a : Nat)), .ol ((runW s (es.take (i + 1)) [([], 1)]).map enW), y5, y6, y7, y8, y9], ?_, _, _, _, _, _, _, _, hn, rfl⟩
      refine gb_ok (ρ1 := [.vl (nums false es), .vl (.int (s : Nat)), .vl (.list ((runW s (es.take i) [([], 1)]).map enW)), .vl (.int (a : Nat)), z4, z5, z6, z7, z8, z9]) rfl ?_
      rw [seq_nx (ρ' := [.vl (nums false es), .vl (.int (s : Nat)), .vl (.list ((runW s (es.take i) [([], 1)]).map enW)), .vl (.int (a : Nat)), .ol [], z5, z6, z7, z8, z9]) rfl, seq_nx e2]
      rfl
  rw [Nat.zero_add, List.take_length] at e1
  unfold wB at e1
  show m_law_powers [.vl (nums false es), .vl (.int (s : Nat)), .no, .no, .no, .no, .no, .no, .no, .no] = _
  unfold m_law_powers
  have s0 : sz ([] : List PyData) = some [] := rfl
  have i1 : mSet 2 (mFrz (mLst (mCons (mTup (mCons (mTup (mNil)) (mCons (mC (.int 1)) (mNil)))) (mNil)))) [.vl (nums false es), .vl (.int (s : Nat)), .no, .no, .no, .no, .no, .no, .no, .no] = pure (.nx [.vl (nums false es), .vl (.int (s : Nat)), .vl (.list [enW ([], 1)]), .no, .no, .no, .no, .no, .no, .no]) := by
    show _ = pure (Fl.nx [.vl (nums false es), .vl (.int (s : Nat)), .vl (.list [.tuple [.tuple [], .int 1]]), .no, .no, .no, .no, .no, .no, .no])
    generalize nums false es = nn at *
    simp only [mSeq, mIfS, mRet, mRetN, mPass, mOrT, mAndT, mNotT, mAsB, mIsi, mName, mOwn, mC, mOp, mOp3, mCl, mCons, mNil, mFrz, mFrzD, mSeqI, mCall, mAndV, mOrV, mNotV, mIfE, mTup, mLst, mSet, mSetF, mSetD, mPar, mUn, mUn', mCut, mP, mNoP, mIsN, mIsNot, mRng, mKeys, mYes, gSet, gTupD, gsCons, gsNil, mFz, mDrop, mAsg, mAppend, ev0, frzAt, wipeE, rdV_vl, rdB_vl, rdB_ol, rdB_od, asB_b, asI_i, seqD_l, seqD_t, lenI1, lenI2, lenI3, lft_some, pure_bind, getE0, getES, List.set_cons_zero, List.set_cons_succ, List.map_cons, List.map_nil, List.cons_append, List.nil_append, List.replicate_succ, List.replicate_zero, List.append_nil, List.length_cons, List.length_nil, if_true, if_false, ite_true, ite_false, Bool.false_eq_true, reduceIte, Bool.not_true, Bool.not_false, Nat.reduceAdd, Nat.reduceSub, List.zip_cons_cons, List.zip_nil_right, List.foldl_cons, List.foldl_nil, s0, s1, s2]
  rw [seq_nx i1, seq_nx (for_ok (ds := es.map fun (e : Nat) => PyData.int (e : Int)) rfl e1)]
  have hlw : (runW s es [([], 1)]).length ≤ 1000000 := by
    have := hW.l
    rw [Nat.zero_add, List.take_length] at this
    exact Nat.le_trans this (Nat.le_trans (Nat.pow_le_pow_right (by decide) hl) (by decide))
  have g : mLc (mSeqI (mName 2)) (gTupD 2 (gsCons (gSet 5) (gsCons (gSet 6) (gsNil)))) (mYes) (mName 6) [5, 6] [.vl (nums false es), .vl (.int (s : Nat)), .vl (.list ((runW s es [([], 1)]).map enW)), z3, z4, z5, z6, z7, z8, z9] = pure (((runW s es [([], 1)]).map (·.2)).map PyData.int) := by
    unfold mLc
    show ((lft (sz ((runW s es [([], 1)]).map enW)) : M (List PyData)) >>= fun ds => lcM ds _) = _
    rw [sz_ok (by rw [List.length_map]; exact hlw)]
    show lcM ((runW s es [([], 1)]).map enW) _ = _
    rw [lcM_of enW (fun p => PyData.int p.2) fun p hp => ?_]
    · rw [List.map_map]; rfl
    · unfold lcF
      show _ = pure (some (PyData.int p.2))
      generalize nums false es = nn at *
      generalize (runW s es [([], 1)]).map enW = ww at *
      generalize hq : enI p.1 = q
      show ((gTupD 2 _ (PyData.tuple [enI p.1, .int p.2]) _ : M Ev) >>= _) = _
      rw [hq]
      simp only [mSeq, mIfS, mRet, mRetN, mPass, mOrT, mAndT, mNotT, mAsB, mIsi, mName, mOwn, mC, mOp, mOp3, mCl, mCons, mNil, mFrz, mFrzD, mSeqI, mCall, mAndV, mOrV, mNotV, mIfE, mTup, mLst, mSet, mSetF, mSetD, mPar, mUn, mUn', mCut, mP, mNoP, mIsN, mIsNot, mRng, mKeys, mYes, gSet, gTupD, gsCons, gsNil, mFz, mDrop, mAsg, mAppend, ev0, frzAt, wipeE, rdV_vl, rdB_vl, rdB_ol, rdB_od, asB_b, asI_i, seqD_l, seqD_t, lenI1, lenI2, lenI3, lft_some, pure_bind, getE0, getES, List.set_cons_zero, List.set_cons_succ, List.map_cons, List.map_nil, List.cons_append, List.nil_append, List.replicate_succ, List.replicate_zero, List.append_nil, List.length_cons, List.length_nil, if_true, if_false, ite_true, ite_false, Bool.false_eq_true, reduceIte, Bool.not_true, Bool.not_false, Nat.reduceAdd, Nat.reduceSub, List.zip_cons_cons, List.zip_nil_right, List.foldl_cons, List.foldl_nil]
  have sm : sumD [.list (((runW s es [([], 1)]).map (·.2)).map PyData.int)] = some (.int (pwrs s es)) := by
    show (intsOf _).map _ = _
    rw [intsOf_ints]; rfl
  generalize mLc (mSeqI (mName 2)) (gTupD 2 (gsCons (gSet 5) (gsCons (gSet 6) (gsNil)))) (mYes) (mName 6) [5, 6] = mm at g ⊢
  generalize ((runW s es [([], 1)]).map (·.2)).map PyData.int = ii at *
  simp only [mSeq, mIfS, mRet, mRetN, mPass, mOrT, mAndT, mNotT, mAsB, mIsi, mName, mOwn, mC, mOp, mOp3, mCl, mCons, mNil, mFrz, mFrzD, mSeqI, mCall, mAndV, mOrV, mNotV, mIfE, mTup, mLst, mSet, mSetF, mSetD, mPar, mUn, mUn', mCut, mP, mNoP, mIsN, mIsNot, mRng, mKeys, mYes, gSet, gTupD, gsCons, gsNil, mFz, mDrop, mAsg, mAppend, ev0, frzAt, wipeE, rdV_vl, rdB_vl, rdB_ol, rdB_od, asB_b, asI_i, seqD_l, seqD_t, lenI1, lenI2, lenI3, lft_some, pure_bind, getE0, getES, List.set_cons_zero, List.set_cons_succ, List.map_cons, List.map_nil, List.cons_append, List.nil_append, List.replicate_succ, List.replicate_zero, List.append_nil, List.length_cons, List.length_nil, if_true, if_false, ite_true, ite_false, Bool.false_eq_true, reduceIte, Bool.not_true, Bool.not_false, Nat.reduceAdd, Nat.reduceSub, List.zip_cons_cons, List.zip_nil_right, List.foldl_cons, List.foldl_nil, g, sm]
end K30
end

section
set_option Elab.async false
set_option linter.all false
set_option maxRecDepth 100000
set_option maxHeartbeats 1000000
namespace K30
open PySem PySem.Spec PyProof.Rows L2 DL PL
section
variable {f : Nat → Sl}
theorem ix_last {ds : List PyData} {d : PyData} (h : ds.getLast? = some d) : ixD (.tuple ds) (.int (-1)) = some d := by
  have hl : 0 < ds.length := by
    cases ds with
    | nil => cases h
    | cons _ _ => exact Nat.succ_pos _
  show L2.atI ds (-1) = _
  unfold L2.atI
  have e : L2.ixN ds.length (-1) = some (ds.length - 1) := by
    unfold L2.ixN
    rw [if_neg (by decide), if_pos (by omega)]
    congr 1
    omega
  rw [e]
  show ds[ds.length - 1]? = _
  rw [← List.getLast?_eq_getElem?]; exact h
theorem ne_en (e f : Int × Rat) : neD (en e) (en f) = some (.bool (!decide (e = f))) := by
  unfold neD eqF
  have p : ∀ e : Int × Rat, (en e).plain = true := fun e => by unfold en fr; simp [PyData.plain, PyData.plainAll]
  have d : (en e).depth ≤ 60 := by unfold en fr; simp [PyData.depth, PyData.depthAll]
  rw [if_pos ⟨p e, p f, .inl d⟩, eqv_en]; rfl
theorem sbl_at {e s : Nat} (he : e < 16) (s0 : 0 < s) (s1 : s < 2 ^ 10) : At 12252240 12 (sbl e) s := by
  obtain ⟨b1, b2, b3⟩ := sbl_ok he
  exact ⟨by decide, by decide, s0, s1, by decide, by decide, by omega, b1, fun x hx => by have := b3 x hx; omega⟩
theorem nat_fr (n : Nat) : PyData.tuple [.int (n : Nat), .int 1] = fr (n : Rat) := (fr_nat n).symm
theorem bt_nat {n k : Nat} (h : n < 2 ^ k) (hk : 0 < k) : Bt k (n : Rat) := ⟨by rw [Rat.num_natCast]; exact h, by rw [Rat.den_natCast]; exact Nat.one_lt_two_pow (by omega)⟩
/-! the first part -/
def yB : Ev → M Fl := (mSeq (mIfS (mAsB (mOp neD (mCl reprL (mCons (mCall 2 mf_poly_at (mCons (mName 4) (mCons (mName 6) (mNil)))) (mNil))) (mCl reprL (mCons (mTup (mCons (mName 5) (mCons (mC (.int 1)) (mNil)))) (mNil))))) (mRet (mC (.bool false))) (mPass)) (mSeq (mSet 7 (mC (.int 1))) (mSeq (mFor (mRng rng1D (mCons (mName 3) (mNil))) (gSet 8) (mSet 7 (mOp mulD (mName 7) (mName 6)))) (mSet 5 (mOp addD (mName 5) (mName 7))))))
theorem turn_loop {y : Nat} (hy : y < 1000) : ∀ (n j : Nat) (f : Nat → Sl) (acc : Nat), f 6 = .vl (.int (y : Nat)) → f 7 = .vl (.int (acc : Nat)) → ∃ f', DL.forM ((List.range' j n).map fun (i : Nat) => PyData.int (i : Int)) (fun d ρ => do let ρ' ← gSet 8 d ρ; mSet 7 (mOp mulD (mName 7) (mName 6)) ρ') (F f) = pure (.nx (F f')) ∧ f' 7 = .vl (.int ((acc * y ^ n : Nat) : Int)) ∧ ∀ k, k ≠ 7 → k ≠ 8 → f' k = f k
  | 0, j, f, acc, h6, h7 => ⟨f, rfl, by rw [h7, Nat.pow_zero, Nat.mul_one], fun _ _ _ => rfl⟩
  | n + 1, j, f, acc, h6, h7 => by
    have m : mulD (.int (acc : Nat)) (.int (y : Nat)) = some (.int ((acc * y : Nat) : Int)) := by
      rw [mulD_ok (.inl (by rw [Int.natAbs_natCast]; omega)), Int.natCast_mul]
    obtain ⟨f', e, h, k⟩ := turn_loop hy n (j + 1) (upd (upd f 8 (.vl (.int (j : Nat)))) 7 (.vl (.int ((acc * y : Nat) : Int)))) (acc * y) h6 rfl
    refine ⟨f', ?_, by rw [h, Nat.pow_succ, Nat.mul_comm (y ^ n), Nat.mul_assoc], fun i a b => ?_⟩
    · have st : mSet 7 (mOp mulD (mName 7) (mName 6)) (F (upd f 8 (.vl (.int (j : Nat))))) = pure (.nx (F (upd (upd f 8 (.vl (.int (j : Nat)))) 7 (.vl (.int ((acc * y : Nat) : Int)))))) := by
        have k6 : upd f 8 (.vl (.int (j : Nat))) 6 = .vl (.int (y : Nat)) := h6
        have k7 : upd f 8 (.vl (.int (j : Nat))) 7 = .vl (.int (acc : Nat)) := h7
        generalize upd f 8 (.vl (.int (j : Nat))) = g at *
        simp only [mSeq, mIfS, mRet, mRetN, mPass, mOrT, mAndT, mNotT, mAsB, mIsi, mName, mOwn, mC, mOp, mOp3, mCl, mCons, mNil, mFrz, mFrzD, mSeqI, mCall, mAndV, mOrV, mNotV, mIfE, mTup, mLst, mSet, mSetF, mSetD, mPar, mUn, mUn', mCut, mP, mNoP, mIsN, mIsNot, mRng, mKeys, mYes, gSet, gTupD, gsCons, gsNil, mFz, mDrop, mAsg, mAppend, ev0, frzAt, wipeE, rdV_vl, rdB_vl, rdB_ol, rdB_od, asB_b, asI_i, seqD_l, seqD_t, lenI1, lenI2, lenI3, lft_some, pure_bind, getE0, getES, List.set_cons_zero, List.set_cons_succ, List.map_cons, List.map_nil, List.cons_append, List.nil_append, List.replicate_succ, List.replicate_zero, List.append_nil, List.length_cons, List.length_nil, if_true, if_false, ite_true, ite_false, Bool.false_eq_true, reduceIte, Bool.not_true, Bool.not_false, Nat.reduceAdd, Nat.reduceSub, List.zip_cons_cons, List.zip_nil_right, List.foldl_cons, List.foldl_nil, k6, k7, m]
        rw [← k6]; rfl
      rw [List.range'_succ, List.map_cons, forM_nx (gb_ok (ρ1 := F (upd f 8 (.vl (.int (j : Nat))))) rfl st)]
      exact e
    · rw [k i a b]
      show (if i = 7 then _ else if i = 8 then _ else f i) = _
      rw [if_neg a, if_neg b]
theorem yB_ok {e i : Nat} (he : e < 13) (hi : i < 14) (h3 : f 3 = .vl (.int (e : Nat))) (h4 : f 4 = .vl (encP (sbl e))) (h5 : f 5 = .vl (.int (TT e i : Nat))) (h6 : f 6 = .vl (.int ((i + 1 : Nat) : Int))) : ∃ f', yB (F f) = pure (.nx (F f')) ∧ f' 5 = .vl (.int (TT e (i + 1) : Nat)) ∧ ∀ k, k ≠ 5 → k ≠ 7 → k ≠ 8 → f' k = f k := by
  have a := (at_ok (sbl_at (e := e) (s := i + 1) (by omega) (by omega) (Nat.lt_of_lt_of_le (show i + 1 < 16 by omega) (by decide)))).1
  rw [tt_all e he i hi] at a
  have r := (sh_fr (B := 70) (bt_nat (tt_lt e he i (by omega)) (by decide)) (by decide) (by decide) (by decide)).repr (by decide) (by decide) (by decide)
  have nf := nat_fr (TT e i)
  have hr : rng1D [.int (e : Nat)] = some ((List.range' 0 e).map fun (i : Nat) => PyData.int (i : Int)) := by
    rw [rng1D_ok (by omega) (by omega), ← List.range_eq_range', ← rngD_map]; rfl
  obtain ⟨f1, e1, q7, q⟩ := turn_loop (y := i + 1) (by omega) e 0 (upd f 7 (.vl (.int 1))) 1 h6 rfl
  rw [Nat.one_mul] at q7
  refine ⟨upd f1 5 (.vl (.int (TT e (i + 1) : Nat))), ?_, rfl, fun k a b c => ?_⟩
  · unfold yB
    have i1 : mIfS (mAsB (mOp neD (mCl reprL (mCons (mCall 2 mf_poly_at (mCons (mName 4) (mCons (mName 6) (mNil)))) (mNil))) (mCl reprL (mCons (mTup (mCons (mName 5) (mCons (mC (.int 1)) (mNil)))) (mNil))))) (mRet (mC (.bool false))) (mPass) (F f) = pure (.nx (F f)) := by
      generalize encP (sbl e) = sb at *
      generalize fr ((TT e i : Nat) : Rat) = u at *
      simp only [mSeq, mIfS, mRet, mRetN, mPass, mOrT, mAndT, mNotT, mAsB, mIsi, mName, mOwn, mC, mOp, mOp3, mCl, mCons, mNil, mFrz, mFrzD, mSeqI, mCall, mAndV, mOrV, mNotV, mIfE, mTup, mLst, mSet, mSetF, mSetD, mPar, mUn, mUn', mCut, mP, mNoP, mIsN, mIsNot, mRng, mKeys, mYes, gSet, gTupD, gsCons, gsNil, mFz, mDrop, mAsg, mAppend, ev0, frzAt, wipeE, rdV_vl, rdB_vl, rdB_ol, rdB_od, asB_b, asI_i, seqD_l, seqD_t, lenI1, lenI2, lenI3, lft_some, pure_bind, getE0, getES, List.set_cons_zero, List.set_cons_succ, List.map_cons, List.map_nil, List.cons_append, List.nil_append, List.replicate_succ, List.replicate_zero, List.append_nil, List.length_cons, List.length_nil, if_true, if_false, ite_true, ite_false, Bool.false_eq_true, reduceIte, Bool.not_true, Bool.not_false, Nat.reduceAdd, Nat.reduceSub, List.zip_cons_cons, List.zip_nil_right, List.foldl_cons, List.foldl_nil, h4, h5, h6, a, s2, nf, r, ne_str]
    have g3 : upd f 7 (.vl (.int 1)) 3 = .vl (.int (e : Nat)) := h3
    have i2 : mRng rng1D (mCons (mName 3) (mNil)) (F (upd f 7 (.vl (.int 1)))) = pure ((List.range' 0 e).map fun (i : Nat) => PyData.int (i : Int)) := by
      generalize upd f 7 (.vl (.int 1)) = g at *
      generalize (List.range' 0 e).map (fun (i : Nat) => PyData.int (i : Int)) = rr at *
      simp only [mSeq, mIfS, mRet, mRetN, mPass, mOrT, mAndT, mNotT, mAsB, mIsi, mName, mOwn, mC, mOp, mOp3, mCl, mCons, mNil, mFrz, mFrzD, mSeqI, mCall, mAndV, mOrV, mNotV, mIfE, mTup, mLst, mSet, mSetF, mSetD, mPar, mUn, mUn', mCut, mP, mNoP, mIsN, mIsNot, mRng, mKeys, mYes, gSet, gTupD, gsCons, gsNil, mFz, mDrop, mAsg, mAppend, ev0, frzAt, wipeE, rdV_vl, rdB_vl, rdB_ol, rdB_od, asB_b, asI_i, seqD_l, seqD_t, lenI1, lenI2, lenI3, lft_some, pure_bind, getE0, getES, List.set_cons_zero, List.set_cons_succ, List.map_cons, List.map_nil, List.cons_append, List.nil_append, List.replicate_succ, List.replicate_zero, List.append_nil, List.length_cons, List.length_nil, if_true, if_false, ite_true, ite_false, Bool.false_eq_true, reduceIte, Bool.not_true, Bool.not_false, Nat.reduceAdd, Nat.reduceSub, List.zip_cons_cons, List.zip_nil_right, List.foldl_cons, List.foldl_nil, g3, hr]
    rw [seq_nx i1, seq_nx (ρ' := F (upd f 7 (.vl (.int 1)))) rfl, seq_nx (for_ok i2 e1)]
    have k5 : f1 5 = .vl (.int (TT e i : Nat)) := (q 5 (by decide) (by decide)).trans h5
    have ad : addD (.int (TT e i : Nat)) (.int (((i + 1) ^ e : Nat) : Int)) = some (.int (TT e (i + 1) : Nat)) := rfl
    simp only [mSeq, mIfS, mRet, mRetN, mPass, mOrT, mAndT, mNotT, mAsB, mIsi, mName, mOwn, mC, mOp, mOp3, mCl, mCons, mNil, mFrz, mFrzD, mSeqI, mCall, mAndV, mOrV, mNotV, mIfE, mTup, mLst, mSet, mSetF, mSetD, mPar, mUn, mUn', mCut, mP, mNoP, mIsN, mIsNot, mRng, mKeys, mYes, gSet, gTupD, gsCons, gsNil, mFz, mDrop, mAsg, mAppend, ev0, frzAt, wipeE, rdV_vl, rdB_vl, rdB_ol, rdB_od, asB_b, asI_i, seqD_l, seqD_t, lenI1, lenI2, lenI3, lft_some, pure_bind, getE0, getES, List.set_cons_zero, List.set_cons_succ, List.map_cons, List.map_nil, List.cons_append, List.nil_append, List.replicate_succ, List.replicate_zero, List.append_nil, List.length_cons, List.length_nil, if_true, if_false, ite_true, ite_false, Bool.false_eq_true, reduceIte, Bool.not_true, Bool.not_false, Nat.reduceAdd, Nat.reduceSub, List.zip_cons_cons, List.zip_nil_right, List.foldl_cons, List.foldl_nil, k5, q7, ad]
    rw [← q7]; rfl
  · show (if k = 5 then _ else f1 k) = _
    rw [if_neg a, q k b c]
    show (if k = 7 then _ else f k) = _
    rw [if_neg b]
theorem for_y {e : Nat} (he : e < 13) (h3 : f 3 = .vl (.int (e : Nat))) (h4 : f 4 = .vl (encP (sbl e))) (h5 : f 5 = .vl (.int 0)) : ∃ f', mFor (mRng rng2D (mCons (mC (.int 1)) (mCons (mC (.int 15)) (mNil)))) (gSet 6) yB (F f) = pure (.nx (F f')) ∧ ∀ k, k ≠ 5 → k ≠ 6 → k ≠ 7 → k ≠ 8 → f' k = f k := by
  have hr : rng2D [.int 1, .int 15] = some ((List.range 14).map fun (i : Nat) => PyData.int ((i + 1 : Nat) : Int)) := by
    rw [rng2D_ok (by decide) (by decide) (by decide) (by decide)]; rfl
  obtain ⟨ρ', e1, f', rfl, _, hk⟩ := for_ix (g := fun (i : Nat) => PyData.int ((i + 1 : Nat) : Int)) (f := fun d ρ => do let ρ' ← gSet 6 d ρ; yB ρ') (S := fun i ρ => ∃ f', ρ = F f' ∧ f' 5 = .vl (.int (TT e i : Nat)) ∧ ∀ k, k ≠ 5 → k ≠ 6 → k ≠ 7 → k ≠ 8 → f' k = f k) (List.range 14) (j := 0) (ρ := F f) ⟨f, rfl, h5, fun _ _ _ _ _ => rfl⟩ fun i a ρ ha ⟨g, hρ, g5, gk⟩ => by
    obtain ⟨rfl, hi⟩ := rng_ix ha
    rw [Nat.zero_add] at g5 ⊢
    subst hρ
    obtain ⟨f', e2, r5, rk⟩ := yB_ok (f := upd g 6 (.vl (.int ((a + 1 : Nat) : Int)))) he hi ((gk 3 (by decide) (by decide) (by decide) (by decide)).trans h3) ((gk 4 (by decide) (by decide) (by decide) (by decide)).trans h4) g5 rfl
    refine ⟨_, gb_ok (ρ1 := F (upd g 6 (.vl (.int ((a + 1 : Nat) : Int))))) rfl e2, f', rfl, r5, fun k h1 h2 h3 h4 => ?_⟩
    rw [rk k h1 h3 h4]
    show (if k = 6 then _ else g k) = _
    rw [if_neg h2]
    exact gk k h1 h2 h3 h4
  refine ⟨f', for_ok ?_ e1, hk⟩
  generalize (List.range 14).map (fun (i : Nat) => PyData.int ((i + 1 : Nat) : Int)) = rr at *
  simp only [mSeq, mIfS, mRet, mRetN, mPass, mOrT, mAndT, mNotT, mAsB, mIsi, mName, mOwn, mC, mOp, mOp3, mCl, mCons, mNil, mFrz, mFrzD, mSeqI, mCall, mAndV, mOrV, mNotV, mIfE, mTup, mLst, mSet, mSetF, mSetD, mPar, mUn, mUn', mCut, mP, mNoP, mIsN, mIsNot, mRng, mKeys, mYes, gSet, gTupD, gsCons, gsNil, mFz, mDrop, mAsg, mAppend, ev0, frzAt, wipeE, rdV_vl, rdB_vl, rdB_ol, rdB_od, asB_b, asI_i, seqD_l, seqD_t, lenI1, lenI2, lenI3, lft_some, pure_bind, getE0, getES, List.set_cons_zero, List.set_cons_succ, List.map_cons, List.map_nil, List.cons_append, List.nil_append, List.replicate_succ, List.replicate_zero, List.append_nil, List.length_cons, List.length_nil, if_true, if_false, ite_true, ite_false, Bool.false_eq_true, reduceIte, Bool.not_true, Bool.not_false, Nat.reduceAdd, Nat.reduceSub, List.zip_cons_cons, List.zip_nil_right, List.foldl_cons, List.foldl_nil, hr]
theorem sbl_can {e : Nat} (he : e < 16) : Can (sbl e) := canB_ok (sblc_all e he)
theorem if_below {e : Nat} (he : e < 13) (h3 : f 3 = .vl (.int (e : Nat))) (h4 : f 4 = .vl (encP (sbl e))) : mIfS (mOrT (mAsB (mOp neD (mOp ixD (mName 4) (mUn negD (mC (.int 1)))) (mTup (mCons (mOp addD (mName 3) (mC (.int 1))) (mCons (mTup (mCons (mC (.int 1)) (mCons (mOp addD (mName 3) (mC (.int 1))) (mNil)))) (mNil)))))) (mAsB (mOp notBD (mCall 1 mf_is_poly (mCons (mName 4) (mNil))) (mC (.bool true))))) (mRet (mC (.bool false))) (mPass) (F f) = pure (.nx (F f)) := by
  have b2 := (sbl_ok (e := e) (by omega)).2.1
  have ix : ixD (encP (sbl e)) (.int (-1)) = some (en ((e : Int) + 1, (((e + 1 : Nat) : Rat))⁻¹)) := ix_last (by rw [List.getLast?_map, last_all e he]; rfl)
  have n1 : negD (.int 1) = some (.int (-1)) := rfl
  have ad : addD (.int (e : Nat)) (.int 1) = some (.int ((e : Int) + 1)) := rfl
  have en1 : PyData.tuple [.int ((e : Int) + 1), .tuple [.int 1, .int ((e : Int) + 1)]] = en ((e : Int) + 1, (((e + 1 : Nat) : Rat))⁻¹) := by
    show _ = PyData.tuple [.int ((e : Int) + 1), fr (((e + 1 : Nat) : Rat))⁻¹]
    rw [fr_inv (by omega)]; rfl
  have nn := ne_en ((e : Int) + 1, (((e + 1 : Nat) : Rat))⁻¹) ((e : Int) + 1, (((e + 1 : Nat) : Rat))⁻¹)
  rw [decide_eq_true rfl] at nn
  have t := is_poly_can (sbl_can (e := e) (by omega)) (by omega)
  have nb : notBD (.bool true) (.bool true) = some (.bool false) := rfl
  generalize encP (sbl e) = sb at *
  generalize en ((e : Int) + 1, (((e + 1 : Nat) : Rat))⁻¹) = en2 at *
  simp only [mSeq, mIfS, mRet, mRetN, mPass, mOrT, mAndT, mNotT, mAsB, mIsi, mName, mOwn, mC, mOp, mOp3, mCl, mCons, mNil, mFrz, mFrzD, mSeqI, mCall, mAndV, mOrV, mNotV, mIfE, mTup, mLst, mSet, mSetF, mSetD, mPar, mUn, mUn', mCut, mP, mNoP, mIsN, mIsNot, mRng, mKeys, mYes, gSet, gTupD, gsCons, gsNil, mFz, mDrop, mAsg, mAppend, ev0, frzAt, wipeE, rdV_vl, rdB_vl, rdB_ol, rdB_od, asB_b, asI_i, seqD_l, seqD_t, lenI1, lenI2, lenI3, lft_some, pure_bind, getE0, getES, List.set_cons_zero, List.set_cons_succ, List.map_cons, List.map_nil, List.cons_append, List.nil_append, List.replicate_succ, List.replicate_zero, List.append_nil, List.length_cons, List.length_nil, if_true, if_false, ite_true, ite_false, Bool.false_eq_true, reduceIte, Bool.not_true, Bool.not_false, Nat.reduceAdd, Nat.reduceSub, List.zip_cons_cons, List.zip_nil_right, List.foldl_cons, List.foldl_nil, h3, h4, ix, n1, ad, en1, nn, t, nb, s2]
end
end K30
end

section
set_option Elab.async false
set_option linter.all false
set_option maxRecDepth 100000
set_option maxHeartbeats 1000000
namespace K30
open PySem PySem.Spec PyProof.Rows L2 DL PL
section
variable {f : Nat → Sl}
def Src (ρ : Ev) : Prop := ∃ f, ρ = F f ∧ f 1 = .src
theorem src1 {f : Nat → Sl} (h : f 1 = .src) : (F f)[1]? = some .src := by
  show some (f 1) = _
  rw [h]
theorem lcM_filt {f : PyData → M (Option PyData)} {c : Int × Rat → Bool} {h : Int × Rat → PyData} : ∀ {A : Po}, (∀ e ∈ A, f (en e) = pure (if c e = true then some (h e) else none)) → lcM (A.map en) f = pure ((A.filter c).map h)
  | [], _ => rfl
  | e :: A, hf => by
    rw [List.map_cons]
    unfold lcM
    rw [hf e List.mem_cons_self, lcM_filt fun x hx => hf x (List.mem_cons_of_mem _ hx)]
    by_cases z : c e = true
    · rw [List.filter_cons_of_pos z, if_pos z]; rfl
    · rw [List.filter_cons_of_neg z, if_neg z]; rfl
def nnf (A : Po) : Po := A.filter fun e => decide (0 ≤ e.1)
/-- what is summed -/
structure NP (P : Po) : Prop where
  q : ∀ e ∈ P, Q 12 50 e.2
  r : ∀ e ∈ P, 0 ≤ e.1 ∧ e.1 ≤ 5
  len : P.length ≤ 4
theorem nnf_ok {A : Po} (h : DP 4 A) : NP (nnf A) := by
  have sub : ∀ e ∈ nnf A, e ∈ A := fun e he => (List.mem_filter.mp he).1
  exact ⟨fun e he => h.q e (sub e he), fun e he => ⟨of_decide_eq_true (List.mem_filter.mp he).2, (h.r e (sub e he)).2⟩, Nat.le_trans (List.length_filter_le _ _) h.len⟩
theorem poly_draw (h1 : f 1 = .src) : Tri (mSet 9 (mCl tupleD (mCons (mFrz (mLc (mSeqI (mCallS 1 1 mf_law_poly (mCons (mC (.int 4)) (mNil)))) (gTupD 2 (gsCons (gSet 16) (gsCons (gSet 17) (gsNil)))) (mAsB (mOp geD (mName 16) (mC (.int 0)))) (mTup (mCons (mName 16) (mCons (mName 17) (mNil)))) [16, 17])) (mNil))) (F f)) fun fl => ∃ P, NP P ∧ fl = .nx (F (upd f 9 (.vl (encP P)))) := by
  refine t_set ((t_cl (P := fun ds => ∃ P, NP P ∧ ds = [.list (P.map en)]) (R := fun d => ∃ P, NP P ∧ d = encP P) (t_cons (t_frz ?_)) fun ds ⟨P, hP, e⟩ => ⟨encP P, by rw [e]; rfl, P, hP, rfl⟩).mono fun d ⟨P, hP, e⟩ => ⟨P, hP, by rw [e]; rfl⟩)
  unfold mLc
  refine Tri.bind (P := fun ds => ∃ A, DP 4 A ∧ ds = A.map en) ?_ fun ds ⟨A, hA, e⟩ => ?_
  · unfold mSeqI
    refine Tri.bind (t_callS (src1 h1) (t_cons (t_c (t_nil ⟨rfl, poly2 (many := 4) (by decide)⟩)))) fun d ⟨A, e, hA⟩ => ?_
    subst e
    exact Tri.lft rfl ⟨A, hA, rfl⟩
  · subst e
    refine Tri.bind (P := fun ds => ds = A.map en) (Tri.lft (sz_ok (by rw [List.length_map]; have := hA.len; omega)) rfl) fun ds e => ?_
    subst e
    refine Tri.eq (a := (nnf A).map en) (lcM_filt fun e he => ?_) (t_nil ⟨nnf A, nnf_ok hA, rfl⟩)
    have c1 : geD (.int e.1) (.int 0) = some (.bool (decide (0 ≤ e.1))) := rfl
    unfold lcF en
    generalize decide (0 ≤ e.1) = b at *
    cases b <;> simp only [mSeq, mIfS, mRet, mRetN, mPass, mOrT, mAndT, mNotT, mAsB, mIsi, mName, mOwn, mC, mOp, mOp3, mCl, mCons, mNil, mFrz, mFrzD, mSeqI, mCall, mAndV, mOrV, mNotV, mIfE, mTup, mLst, mSet, mSetF, mSetD, mPar, mUn, mUn', mCut, mP, mNoP, mIsN, mIsNot, mRng, mKeys, mYes, gSet, gTupD, gsCons, gsNil, mFz, mDrop, mAsg, mAppend, ev0, frzAt, wipeE, rdV_vl, rdB_vl, rdB_ol, rdB_od, asB_b, asI_i, seqD_l, seqD_t, lenI1, lenI2, lenI3, lft_some, pure_bind, getE0, getES, List.set_cons_zero, List.set_cons_succ, List.map_cons, List.map_nil, List.cons_append, List.nil_append, List.replicate_succ, List.replicate_zero, List.append_nil, List.length_cons, List.length_nil, if_true, if_false, ite_true, ite_false, Bool.false_eq_true, reduceIte, Bool.not_true, Bool.not_false, Nat.reduceAdd, Nat.reduceSub, List.zip_cons_cons, List.zip_nil_right, List.foldl_cons, List.foldl_nil, c1, s2]
theorem np_pin {P : Po} (h : NP P) : Pin 12 P := ⟨by decide, by decide, fun e he => (h.q e he).mono (by decide), fun e he => by have := h.r e he; omega, by have := h.len; omega⟩
theorem np_at {P : Po} (h : NP P) {s : Nat} (s0 : 0 < s) (s1 : s < 2 ^ 10) : At 12 50 P s := ⟨by decide, by decide, s0, s1, by decide, by decide, by have := h.len; omega, h.q, fun e he => by have := h.r e he; omega⟩
theorem np_ev {P : Po} (h : NP P) {s : Nat} (s1 : s ≤ 9) : Q 12 90 (ev P s) := by
  have := ev_q (N := 12) (m := 4) (k := 70) (by decide) (by decide) (by decide) (s : Rat) (L := P) fun e he => by
    have hr := h.r e he
    have hp : (s : Rat) ^ e.1 = ((s ^ e.1.toNat : Nat) : Rat) := by
      rw [← zp_pos, show ((e.1.toNat : Nat) : Int) = e.1 by omega]
    have hlt : s ^ e.1.toNat < 2 ^ 20 := by
      have h1 : s ^ e.1.toNat ≤ 9 ^ e.1.toNat := Nat.pow_le_pow_left s1 _
      have h2 : 9 ^ e.1.toNat ≤ 9 ^ 5 := Nat.pow_le_pow_right (by decide) (by omega)
      exact Nat.lt_of_le_of_lt (Nat.le_trans h1 h2) (by decide)
    rw [hp]
    exact (h.q e he).mul (q_nat _ 20 hlt)
  exact this.mono (by have := Nat.mul_le_mul_left 5 h.len; omega)
theorem st_ok {e : Nat} (he : e < 16) : ev (sbl e) ((1 : Nat) : Rat) = 0 ∧ ∀ y : Nat, y < 13 → ev (sbl e) ((y + 1 + 1 : Nat) : Rat) = ev (sbl e) ((y + 1 : Nat) : Rat) + ((y + 1 : Nat) : Rat) ^ (e : Int) := by
  have := st_all e he
  unfold stB at this
  simp only [Bool.and_eq_true, decide_eq_true_eq] at this
  exact ⟨this.1, fun y hy => of_decide_eq_true (List.all_eq_true.mp this.2 y (List.mem_range.mpr hy))⟩
theorem sm_one : ∀ {P : Po}, (∀ e ∈ P, 0 ≤ e.1 ∧ e.1 ≤ 15) → ev (smL P) ((1 : Nat) : Rat) = 0
  | [], _ => rfl
  | e :: P, h => by
    have hr := h e List.mem_cons_self
    show ev (scaled e.2 (sbl e.1.toNat) ++ smL P) _ = _
    rw [ev_app, ev_scaled, (st_ok (e := e.1.toNat) (by omega)).1, sm_one fun x hx => h x (List.mem_cons_of_mem _ hx)]
    grind
theorem sm_step {y : Nat} (hy : y < 13) : ∀ {P : Po}, (∀ e ∈ P, 0 ≤ e.1 ∧ e.1 ≤ 15) → ev (smL P) ((y + 1 + 1 : Nat) : Rat) = ev (smL P) ((y + 1 : Nat) : Rat) + ev P ((y + 1 : Nat) : Rat)
  | [], _ => by show (0 : Rat) = 0 + 0; grind
  | e :: P, h => by
    have hr := h e List.mem_cons_self
    have st := (st_ok (e := e.1.toNat) (by omega)).2 y hy
    rw [show ((e.1.toNat : Nat) : Int) = e.1 by omega] at st
    show ev (scaled e.2 (sbl e.1.toNat) ++ smL P) _ = ev (scaled e.2 (sbl e.1.toNat) ++ smL P) _ + (e.2 * ((y + 1 : Nat) : Rat) ^ e.1 + ev P ((y + 1 : Nat) : Rat))
    rw [ev_app, ev_app, ev_scaled, ev_scaled, st, sm_step hy fun x hx => h x (List.mem_cons_of_mem _ hx)]
    grind
def zB : Ev → M Fl := (mSeq (mIfS (mAsB (mOp neD (mCl reprL (mCons (mCall 2 mf_poly_at (mCons (mName 10) (mCons (mName 6) (mNil)))) (mNil))) (mCl reprL (mCons (mName 11) (mNil))))) (mRet (mC (.bool false))) (mPass)) (mSet 11 (mCall 2 mf_law_plus (mCons (mName 11) (mCons (mCall 2 mf_law_at (mCons (mName 9) (mCons (mName 6) (mNil)))) (mNil))))))
theorem sg_at {P G : Po} (hG : Sg 12 P P.length G) (hP : NP P) {s : Nat} (s0 : 0 < s) (s1 : s < 2 ^ 10) : At (12 * 12252240) 49000 G s := ⟨by decide, by decide, s0, s1, by decide, by decide, by have := can_len hG.cf.can hG.r; omega, fun e he => (hG.q e he).mono (by have := hP.len; omega), fun e he => by have := hG.r e he; omega⟩
theorem zB_ok {P G : Po} (hP : NP P) (hG : Sg 12 P P.length G) {i : Nat} (hi : i < 8) (hq : Q 12 (100 + 10 * i) (ev G ((i + 1 : Nat) : Rat))) (h6 : f 6 = .vl (.int ((i + 1 : Nat) : Int))) (h9 : f 9 = .vl (encP P)) (h10 : f 10 = .vl (encP G)) (h11 : f 11 = .vl (fr (ev G ((i + 1 : Nat) : Rat)))) :
    Q 12 (100 + 10 * (i + 1)) (ev G ((i + 1 + 1 : Nat) : Rat)) ∧ zB (F f) = pure (.nx (F (upd f 11 (.vl (fr (ev G ((i + 1 + 1 : Nat) : Rat))))))) := by
  have s1 : i + 1 < 2 ^ 10 := Nat.lt_of_lt_of_le (show i + 1 < 10 by omega) (by decide)
  have a1 := (at_ok (sg_at hG hP (s := i + 1) (by omega) s1)).1
  have a2 := (at_ok (np_at hP (s := i + 1) (by omega) s1)).2.1
  have pr := np_pin hP
  have cf := hG.cf
  rw [List.take_length] at cf
  have st : ev G ((i + 1 + 1 : Nat) : Rat) = ev G ((i + 1 : Nat) : Rat) + ev P ((i + 1 : Nat) : Rat) := by
    rw [cf.ev, cf.ev, sm_step (by omega) pr.r]
  have qp := np_ev hP (s := i + 1) (by omega)
  have t := plus_ok (q_bg hq (by decide) (by decide) (by omega) (by omega)) (q_bg qp (by decide) (by decide) (by decide) (by decide))
  rw [← st] at t
  have r := (sh_fr (B := 300) (q_bt hq (m := 4) (by decide) (by decide) (by omega)) (by omega) (by omega) (by omega)).repr (by decide) (by decide) (by decide)
  refine ⟨by rw [st]; exact ((hq.add (qp.mono (by omega)) (k := 4) (by decide) (by decide)).mono (by omega)), ?_⟩
  generalize fr (ev G ((i + 1 + 1 : Nat) : Rat)) = u2 at *
  generalize fr (ev G ((i + 1 : Nat) : Rat)) = u1 at *
  generalize fr (ev P ((i + 1 : Nat) : Rat)) = u3 at *
  generalize encP P = p at *
  generalize encP G = g at *
  unfold zB
  simp only [mSeq, mIfS, mRet, mRetN, mPass, mOrT, mAndT, mNotT, mAsB, mIsi, mName, mOwn, mC, mOp, mOp3, mCl, mCons, mNil, mFrz, mFrzD, mSeqI, mCall, mAndV, mOrV, mNotV, mIfE, mTup, mLst, mSet, mSetF, mSetD, mPar, mUn, mUn', mCut, mP, mNoP, mIsN, mIsNot, mRng, mKeys, mYes, gSet, gTupD, gsCons, gsNil, mFz, mDrop, mAsg, mAppend, ev0, frzAt, wipeE, rdV_vl, rdB_vl, rdB_ol, rdB_od, asB_b, asI_i, seqD_l, seqD_t, lenI1, lenI2, lenI3, lft_some, pure_bind, getE0, getES, List.set_cons_zero, List.set_cons_succ, List.map_cons, List.map_nil, List.cons_append, List.nil_append, List.replicate_succ, List.replicate_zero, List.append_nil, List.length_cons, List.length_nil, if_true, if_false, ite_true, ite_false, Bool.false_eq_true, reduceIte, Bool.not_true, Bool.not_false, Nat.reduceAdd, Nat.reduceSub, List.zip_cons_cons, List.zip_nil_right, List.foldl_cons, List.foldl_nil, h6, h9, h10, h11, a1, a2, t, r, ne_str]
  rw [← h6, ← h9, ← h10]; rfl
theorem for_z {P G : Po} (hP : NP P) (hG : Sg 12 P P.length G) (h9 : f 9 = .vl (encP P)) (h10 : f 10 = .vl (encP G)) (h11 : f 11 = .vl (fr 0)) : ∃ f', mFor (mRng rng2D (mCons (mC (.int 1)) (mCons (mC (.int 9)) (mNil)))) (gSet 6) zB (F f) = pure (.nx (F f')) ∧ ∀ k, k ≠ 6 → k ≠ 11 → f' k = f k := by
  have hr : rng2D [.int 1, .int 9] = some ((List.range 8).map fun (i : Nat) => PyData.int ((i + 1 : Nat) : Int)) := by
    rw [rng2D_ok (by decide) (by decide) (by decide) (by decide)]; rfl
  have cf := hG.cf
  rw [List.take_length] at cf
  have z : ev G ((0 + 1 : Nat) : Rat) = 0 := by
    rw [cf.ev]; exact sm_one (np_pin hP).r
  obtain ⟨ρ', e1, f', rfl, _, _, hk⟩ := for_ix (g := fun (i : Nat) => PyData.int ((i + 1 : Nat) : Int)) (f := fun d ρ => do let ρ' ← gSet 6 d ρ; zB ρ') (S := fun i ρ => ∃ f', ρ = F f' ∧ f' 11 = .vl (fr (ev G ((i + 1 : Nat) : Rat))) ∧ Q 12 (100 + 10 * i) (ev G ((i + 1 : Nat) : Rat)) ∧ ∀ k, k ≠ 6 → k ≠ 11 → f' k = f k) (List.range 8) (j := 0) (ρ := F f) ⟨f, rfl, by rw [z]; exact h11, by rw [z]; exact Q.zero (by decide), fun _ _ _ => rfl⟩ fun i a ρ ha ⟨g, hρ, g11, gq, gk⟩ => by
    obtain ⟨rfl, hi⟩ := rng_ix ha
    rw [Nat.zero_add] at g11 gq ⊢
    subst hρ
    obtain ⟨nq, e2⟩ := zB_ok (f := upd g 6 (.vl (.int ((a + 1 : Nat) : Int)))) hP hG hi gq rfl ((gk 9 (by decide) (by decide)).trans h9) ((gk 10 (by decide) (by decide)).trans h10) g11
    refine ⟨_, gb_ok (ρ1 := F (upd g 6 (.vl (.int ((a + 1 : Nat) : Int))))) rfl e2, _, rfl, rfl, nq, fun k h1 h2 => ?_⟩
    show (if k = 11 then _ else if k = 6 then _ else g k) = _
    rw [if_neg h2, if_neg h1]
    exact gk k h1 h2
  refine ⟨f', for_ok ?_ e1, hk⟩
  generalize (List.range 8).map (fun (i : Nat) => PyData.int ((i + 1 : Nat) : Int)) = rr at *
  simp only [mSeq, mIfS, mRet, mRetN, mPass, mOrT, mAndT, mNotT, mAsB, mIsi, mName, mOwn, mC, mOp, mOp3, mCl, mCons, mNil, mFrz, mFrzD, mSeqI, mCall, mAndV, mOrV, mNotV, mIfE, mTup, mLst, mSet, mSetF, mSetD, mPar, mUn, mUn', mCut, mP, mNoP, mIsN, mIsNot, mRng, mKeys, mYes, gSet, gTupD, gsCons, gsNil, mFz, mDrop, mAsg, mAppend, ev0, frzAt, wipeE, rdV_vl, rdB_vl, rdB_ol, rdB_od, asB_b, asI_i, seqD_l, seqD_t, lenI1, lenI2, lenI3, lft_some, pure_bind, getE0, getES, List.set_cons_zero, List.set_cons_succ, List.map_cons, List.map_nil, List.cons_append, List.nil_append, List.replicate_succ, List.replicate_zero, List.append_nil, List.length_cons, List.length_nil, if_true, if_false, ite_true, ite_false, Bool.false_eq_true, reduceIte, Bool.not_true, Bool.not_false, Nat.reduceAdd, Nat.reduceSub, List.zip_cons_cons, List.zip_nil_right, List.foldl_cons, List.foldl_nil, hr]
end
end K30
end

section
set_option Elab.async false
set_option linter.all false
set_option maxRecDepth 100000
set_option maxHeartbeats 1000000
namespace K30
open PySem PySem.Spec PyProof.Rows L2 DL PL
section
variable {f : Nat → Sl}
/-- drawn exponents -/
structure Ex (es : List Nat) : Prop where
  le : ∀ e ∈ es, e ≤ 3
  len : es.length ≤ 4
abbrev eI (es : List Nat) : List PyData := es.map fun (e : Nat) => PyData.int (e : Int)
theorem all_of {p : List Nat → Bool} {L : List (List Nat)} (h : L.all p = true) {es : List Nat} (m : es ∈ L) : p es = true := List.all_eq_true.mp h es m
structure To (es : List Nat) : Prop where
  can : Can (told0 es)
  q : ∀ e ∈ told0 es, Q 87178291200 24 e.2
  len : (told0 es).length ≤ 17
  r : ∀ e ∈ told0 es, 0 ≤ e.1 ∧ e.1 ≤ 16
theorem Ex.mem {es : List Nat} (h : Ex es) : es ∈ all4 := mem_all4 h.len h.le
theorem Ex.ed {es : List Nat} (h : Ex es) : edB es = true := all_of ed_all h.mem
theorem Ex.nil (h : Ex []) : told0 [] = [(0, 1)] := by
  have := h.ed
  unfold edB at this
  exact of_decide_eq_true this
structure Ed (es : List Nat) : Prop where
  last : ((told0 es).getLastD (0, 0)).1 = ((es.sum + es.length : Nat) : Int)
  ne : told0 es ≠ []
  r : ∀ e ∈ told0 es, 0 < e.1 ∧ e.1 ≤ 16
  one : ∀ e, es = [e] → told0 es = cfP (sbl e ++ [((e : Int), 1)])
theorem Ex.cons {e : Nat} {r : List Nat} (h : Ex (e :: r)) : Ed (e :: r) := by
  have := h.ed
  unfold edB at this
  simp only [Bool.and_eq_true] at this
  obtain ⟨⟨⟨h1, h2⟩, h3⟩, h4⟩ := this
  refine ⟨of_decide_eq_true h1, of_decide_eq_true h2, fun x hx => ?_, fun y hy => ?_⟩
  · have := List.all_eq_true.mp h3 x hx
    simp only [Bool.and_eq_true, decide_eq_true_eq] at this
    exact this
  · cases hy
    exact of_decide_eq_true h4
theorem Ex.to {es : List Nat} (h : Ex es) : To es := by
  have t := all_of tl_all h.mem
  unfold tlB at t
  simp only [Bool.and_eq_true, decide_eq_true_eq] at t
  refine ⟨canB_ok t.1.1, qB_ok t.1.2, t.2, fun e he => ?_⟩
  cases es with
  | nil =>
    rw [h.nil] at he
    cases List.mem_singleton.mp he
    exact ⟨by decide, by decide⟩
  | cons a r =>
    have := h.cons.r e he
    omega
theorem Ex.fn {es : List Nat} (h : Ex es) : ∀ j, j < es.length → fnB (es.take j) = true := fun j hj => all_of fn_all (mem_85 (by rw [List.length_take]; have := h.len; omega) fun e he => h.le e (List.mem_of_mem_take he))
theorem Ex.pw {es : List Nat} (h : Ex es) (tup : Bool) : mf_power_sum [nums tup es] = pure (encP (told0 es)) := power_ok h.le h.len h.fn tup
theorem e_draw (h1 : f 1 = .src) : Tri (mSet 3 (mCallS 1 1 mf_law_pick (mCons (mC (.int 13)) (mNil))) (F f)) fun fl => ∃ e : Nat, e < 13 ∧ fl = .nx (F (upd f 3 (.vl (.int (e : Nat))))) :=
  t_set ((t_callS (src1 h1) (t_cons (t_c (t_nil ⟨rfl, pick_ok (by decide) (by decide)⟩)))).mono fun d ⟨r, e, h2, h3⟩ => ⟨r.toNat, by omega, by rw [e, show ((r.toNat : Nat) : Int) = r by omega]; rfl⟩)
theorem par45 {e : Nat} (he : e < 13) (h3 : f 3 = .vl (.int (e : Nat))) : mPar [4, 5] (mCons (mCall 1 mf_sum_below (mCons (mName 3) (mNil))) (mCons (mC (.int 0)) (mNil))) (F f) = pure (.nx (F (upd (upd f 4 (.vl (encP (sbl e)))) 5 (.vl (.int 0))))) := by
  have a := sum_below_ok (e := e) (by omega)
  generalize encP (sbl e) = sb at *
  simp only [mSeq, mIfS, mRet, mRetN, mPass, mOrT, mAndT, mNotT, mAsB, mIsi, mName, mOwn, mC, mOp, mOp3, mCl, mCons, mNil, mFrz, mFrzD, mSeqI, mCall, mAndV, mOrV, mNotV, mIfE, mTup, mLst, mSet, mSetF, mSetD, mPar, mUn, mUn', mCut, mP, mNoP, mIsN, mIsNot, mRng, mKeys, mYes, gSet, gTupD, gsCons, gsNil, mFz, mDrop, mAsg, mAppend, ev0, frzAt, wipeE, rdV_vl, rdB_vl, rdB_ol, rdB_od, asB_b, asI_i, seqD_l, seqD_t, lenI1, lenI2, lenI3, lft_some, pure_bind, getE0, getES, List.set_cons_zero, List.set_cons_succ, List.map_cons, List.map_nil, List.cons_append, List.nil_append, List.replicate_succ, List.replicate_zero, List.append_nil, List.length_cons, List.length_nil, if_true, if_false, ite_true, ite_false, Bool.false_eq_true, reduceIte, Bool.not_true, Bool.not_false, Nat.reduceAdd, Nat.reduceSub, List.zip_cons_cons, List.zip_nil_right, List.foldl_cons, List.foldl_nil, h3, a]
  rw [← h3]; rfl
theorem par1011 {P G : Po} (hg : mf_summed_below [encP P] = pure (encP G)) (h9 : f 9 = .vl (encP P)) : mPar [10, 11] (mCons (mCall 1 mf_summed_below (mCons (mName 9) (mNil))) (mCons (mTup (mCons (mC (.int 0)) (mCons (mC (.int 1)) (mNil)))) (mNil))) (F f) = pure (.nx (F (upd (upd f 10 (.vl (encP G))) 11 (.vl (fr 0))))) := by
  rw [fr0]
  generalize encP P = p at *
  generalize encP G = g at *
  simp only [mSeq, mIfS, mRet, mRetN, mPass, mOrT, mAndT, mNotT, mAsB, mIsi, mName, mOwn, mC, mOp, mOp3, mCl, mCons, mNil, mFrz, mFrzD, mSeqI, mCall, mAndV, mOrV, mNotV, mIfE, mTup, mLst, mSet, mSetF, mSetD, mPar, mUn, mUn', mCut, mP, mNoP, mIsN, mIsNot, mRng, mKeys, mYes, gSet, gTupD, gsCons, gsNil, mFz, mDrop, mAsg, mAppend, ev0, frzAt, wipeE, rdV_vl, rdB_vl, rdB_ol, rdB_od, asB_b, asI_i, seqD_l, seqD_t, lenI1, lenI2, lenI3, lft_some, pure_bind, getE0, getES, List.set_cons_zero, List.set_cons_succ, List.map_cons, List.map_nil, List.cons_append, List.nil_append, List.replicate_succ, List.replicate_zero, List.append_nil, List.length_cons, List.length_nil, if_true, if_false, ite_true, ite_false, Bool.false_eq_true, reduceIte, Bool.not_true, Bool.not_false, Nat.reduceAdd, Nat.reduceSub, List.zip_cons_cons, List.zip_nil_right, List.foldl_cons, List.foldl_nil, h9, hg, s2]
  rw [← h9]; rfl
theorem t_lcT {ρ : Ev} {mi : Ev → M (List PyData)} {g : PyData → Ev → M Ev} {mt : Ev → M Bool} {me : Ev → M PyData} {vs : List Nat} {P : PyData → Prop} {R : List PyData → Prop} (h : Tri (mi ρ) fun ds => R ds ∧ ds.length ≤ 1000000) (hf : ∀ ds, R ds → ∀ d ∈ ds, Tri (lcF ρ g mt me vs d) fun o => ∃ x, o = some x ∧ P x) : Tri (mLc mi g mt me vs ρ) fun xs => ∃ ds, R ds ∧ xs.length = ds.length ∧ ∀ x ∈ xs, P x := by
  unfold mLc
  refine Tri.bind h fun ds ⟨r, hn⟩ => ?_
  refine Tri.bind (P := fun d' => d' = ds) (Tri.lft (sz_ok hn) rfl) fun d' e => ?_
  subst e
  exact (t_lcM d' (hf d' r)).mono fun xs ⟨a, b⟩ => ⟨d', r, a, b⟩
theorem nats_ex : ∀ {xs : List PyData}, (∀ x ∈ xs, ∃ e : Nat, x = .int (e : Nat) ∧ e ≤ 3) → ∃ es : List Nat, xs = eI es ∧ ∀ e ∈ es, e ≤ 3
  | [], _ => ⟨[], rfl, fun q h => nomatch h⟩
  | x :: xs, h => by
    obtain ⟨q, rfl, hq⟩ := h x List.mem_cons_self
    obtain ⟨l, rfl, hl⟩ := nats_ex fun y hy => h y (List.mem_cons_of_mem _ hy)
    exact ⟨q :: l, rfl, fun z hz => (List.mem_cons.mp hz).elim (fun e => e ▸ hq) (hl z)⟩
theorem ex_draw (h1 : f 1 = .src) : Tri (mSetF 12 (mLc (mRng rng1D (mCons (mCallS 1 1 mf_law_pick (mCons (mC (.int 5)) (mNil))) (mNil))) (gSet 8) (mYes) (mCallS 1 1 mf_law_pick (mCons (mC (.int 4)) (mNil))) [8]) (F f)) fun fl => ∃ es : List Nat, Ex es ∧ fl = .nx (F (upd f 12 (.ol (eI es)))) := by
  refine t_setF ((t_lcT (P := fun x => ∃ e : Nat, x = .int (e : Nat) ∧ e ≤ 3) (R := fun ds => ds.length ≤ 4) (t_rng (P := fun ds => ∃ m : Nat, m ≤ 4 ∧ ds = [.int (m : Nat)]) (t_cons ((t_callS (src1 h1) (t_cons (t_c (t_nil ⟨rfl, pick_ok (by decide) (by decide)⟩)))).mono fun d ⟨r, e, h2, h3⟩ => t_nil ⟨r.toNat, by omega, by rw [e, show ((r.toNat : Nat) : Int) = r by omega]⟩)) fun ds ⟨m, hm, e⟩ => ?_) fun ds hds d hd => ?_).mono fun xs ⟨ds, hl, hl2, hx⟩ => ?_)
  · subst e
    refine ⟨rngD 0 m, by rw [rng1D_ok (by omega) (by omega)]; rfl, ?_⟩
    have lr : (rngD 0 m).length = m := by unfold rngD; rw [List.length_map, List.length_range]
    rw [lr]; exact ⟨hm, by omega⟩
  · refine Tri.bind (P := fun ρ1 => ρ1 = F (upd f 8 (.vl d))) (Tri.pure rfl) fun ρ1 e => ?_
    subst e
    refine Tri.bind (P := fun b => b = true) (Tri.pure rfl) fun b e => ?_
    subst e
    have hs : (F (upd f 8 (.vl d)))[1]? = some .src := by
      show some (f 1) = _
      rw [h1]
    exact Tri.bind (t_callS hs (t_cons (t_c (t_nil ⟨rfl, pick_ok (by decide) (by decide)⟩)))) fun x ⟨r, e, h2, h3⟩ => Tri.pure ⟨x, rfl, r.toNat, by rw [e, show ((r.toNat : Nat) : Int) = r by omega], by omega⟩
  · obtain ⟨es, rfl, hes⟩ := nats_ex hx
    rw [List.length_map] at hl2
    exact ⟨es, ⟨hes, by omega⟩, rfl⟩
theorem fz12 {es : List Nat} (h12 : f 12 = .ol (eI es)) : frzAt 12 (F f) = F (upd f 12 (.vl (nums false es))) := by
  unfold frzAt
  show (match some (f 12) with | some (.ol ds) => (F f).set 12 (.vl (.list ds)) | some (.od kvs) => (F f).set 12 (.vl (.dict kvs)) | _ => F f) = _
  rw [h12]; rfl
theorem fz12v {d : PyData} (h12 : f 12 = .vl d) : frzAt 12 (F f) = F f := by
  unfold frzAt
  show (match some (f 12) with | some (.ol ds) => (F f).set 12 (.vl (.list ds)) | some (.od kvs) => (F f).set 12 (.vl (.dict kvs)) | _ => F f) = _
  rw [h12]
theorem told_set {es : List Nat} (h : Ex es) (h12 : f 12 = .ol (eI es)) : mFz 12 (mSet 13 (mCall 1 mf_power_sum (mCons (mName 12) (mNil)))) (F f) = pure (.nx (F (upd (upd f 12 (.vl (nums false es))) 13 (.vl (encP (told0 es)))))) := by
  unfold mFz
  rw [fz12 h12]
  have k : upd f 12 (.vl (nums false es)) 12 = .vl (nums false es) := rfl
  have p := h.pw false
  generalize upd f 12 (.vl (nums false es)) = g at *
  generalize nums false es = lf at *
  generalize encP (told0 es) = t at *
  simp only [mSeq, mIfS, mRet, mRetN, mPass, mOrT, mAndT, mNotT, mAsB, mIsi, mName, mOwn, mC, mOp, mOp3, mCl, mCons, mNil, mFrz, mFrzD, mSeqI, mCall, mAndV, mOrV, mNotV, mIfE, mTup, mLst, mSet, mSetF, mSetD, mPar, mUn, mUn', mCut, mP, mNoP, mIsN, mIsNot, mRng, mKeys, mYes, gSet, gTupD, gsCons, gsNil, mFz, mDrop, mAsg, mAppend, ev0, frzAt, wipeE, rdV_vl, rdB_vl, rdB_ol, rdB_od, asB_b, asI_i, seqD_l, seqD_t, lenI1, lenI2, lenI3, lft_some, pure_bind, getE0, getES, List.set_cons_zero, List.set_cons_succ, List.map_cons, List.map_nil, List.cons_append, List.nil_append, List.replicate_succ, List.replicate_zero, List.append_nil, List.length_cons, List.length_nil, if_true, if_false, ite_true, ite_false, Bool.false_eq_true, reduceIte, Bool.not_true, Bool.not_false, Nat.reduceAdd, Nat.reduceSub, List.zip_cons_cons, List.zip_nil_right, List.foldl_cons, List.foldl_nil, k, p]
  rw [← k]; rfl
end
end K30
end

section
set_option Elab.async false
set_option linter.all false
set_option maxRecDepth 100000
set_option maxHeartbeats 1000000
namespace K30
open PySem PySem.Spec PyProof.Rows L2 DL PL
section
variable {f : Nat → Sl} {es : List Nat}
theorem To.sh (h : To es) : ∀ e ∈ told0 es, e.1.natAbs < 2 ^ 10 ∧ Bt 40 e.2 := fun e he => ⟨by have := h.r e he; omega, q_bt (m := 37) ((h.q e he).mono (show (24 : Nat) ≤ 40 by decide)) (by decide) (by decide) (by decide)⟩
theorem To.repr (h : To es) : reprL [encP (told0 es)] = some (.str (encP (told0 es)).shown) := (sh_P (B := 50) h.sh (by decide) (by decide) (by decide) h.len).repr (by decide) (by decide) (by decide)
theorem if_told (h : Ex es) (h12 : f 12 = .vl (nums false es)) (h13 : f 13 = .vl (encP (told0 es))) : (mIfS (mOrT (mAsB (mOp neD (mCl reprL (mCons (mName 13) (mNil))) (mCl reprL (mCons (mCall 1 mf_power_sum (mCons (mCl tupleD (mCons (mOwn 12) (mNil))) (mNil))) (mNil))))) (mAsB (mOp notBD (mCall 1 mf_is_poly (mCons (mName 13) (mNil))) (mC (.bool true))))) (mRet (mC (.bool false))) (mPass)) (F f) = pure (.nx (F f)) := by
  have p := h.pw true
  have r := h.to.repr
  have t := is_poly_can h.to.can (by have := h.to.len; omega)
  have tu : tupleD [nums false es] = some (nums true es) := rfl
  have nb : notBD (.bool true) (.bool true) = some (.bool false) := rfl
  generalize encP (told0 es) = t0 at *
  generalize nums false es = nf at *
  generalize nums true es = nt at *
  simp only [mSeq, mIfS, mRet, mRetN, mPass, mOrT, mAndT, mNotT, mAsB, mIsi, mName, mOwn, mC, mOp, mOp3, mCl, mCons, mNil, mFrz, mFrzD, mSeqI, mCall, mAndV, mOrV, mNotV, mIfE, mTup, mLst, mSet, mSetF, mSetD, mPar, mUn, mUn', mCut, mP, mNoP, mIsN, mIsNot, mRng, mKeys, mYes, gSet, gTupD, gsCons, gsNil, mFz, mDrop, mAsg, mAppend, ev0, frzAt, wipeE, rdV_vl, rdB_vl, rdB_ol, rdB_od, asB_b, asI_i, seqD_l, seqD_t, lenI1, lenI2, lenI3, lft_some, pure_bind, getE0, getES, List.set_cons_zero, List.set_cons_succ, List.map_cons, List.map_nil, List.cons_append, List.nil_append, List.replicate_succ, List.replicate_zero, List.append_nil, List.length_cons, List.length_nil, if_true, if_false, ite_true, ite_false, Bool.false_eq_true, reduceIte, Bool.not_true, Bool.not_false, Nat.reduceAdd, Nat.reduceSub, List.zip_cons_cons, List.zip_nil_right, List.foldl_cons, List.foldl_nil, h12, h13, tu, p, r, t, nb, ne_str]
def sB : Ev → M Fl := (mFz 12 (mIfS (mAsB (mOp neD (mCl reprL (mCons (mCall 2 mf_poly_at (mCons (mName 13) (mCons (mName 14) (mNil)))) (mNil))) (mCl reprL (mCons (mTup (mCons (mCall 2 mf_law_powers (mCons (mName 12) (mCons (mName 14) (mNil)))) (mCons (mC (.int 1)) (mNil)))) (mNil))))) (mRet (mC (.bool false))) (mPass)))
def sN (es : List Nat) : Nat := if es.length > 2 then 7 else 12
theorem Ex.ev (h : Ex es) {s : Nat} (hs : s < sN es) : PL.ev (told0 es) ((s + 1 : Nat) : Rat) = ((pwrs (s + 1) es : Int) : Rat) := by
  have := all_of ev_all h.mem
  unfold evB at this
  exact of_decide_eq_true (List.all_eq_true.mp this s (List.mem_range.mpr hs))
theorem Ex.pb (h : Ex es) {s : Nat} (hs : s < sN es) : (pwrs (s + 1) es).natAbs < 2 ^ 100 := by
  have := all_of pb_all h.mem
  unfold pbB at this
  exact of_decide_eq_true (List.all_eq_true.mp this s (List.mem_range.mpr hs))
theorem sN_le (es : List Nat) : sN es ≤ 12 := by unfold sN; split <;> omega
theorem sB_ok (h : Ex es) {s : Nat} (hs : s < sN es) (h12 : f 12 = .vl (nums false es)) (h13 : f 13 = .vl (encP (told0 es))) (h14 : f 14 = .vl (.int ((s + 1 : Nat) : Int))) : sB (F f) = pure (.nx (F f)) := by
  have s12 := sN_le es
  have T := h.to
  have a := (at_ok (D := 87178291200) (k := 24) (P := told0 es) (s := s + 1) ⟨by decide, by decide, by omega, Nat.lt_of_lt_of_le (show s + 1 < 16 by omega) (by decide), by decide, by decide, by have := T.len; omega, T.q, fun e he => by have := T.r e he; omega⟩).1
  rw [h.ev hs] at a
  have p := powers_ok h.le h.len (s := s + 1) (by omega)
  have nf := fr_int (pwrs (s + 1) es)
  have r := (sh_fr (B := 110) (k := 100) (q := ((pwrs (s + 1) es : Int) : Rat)) ⟨by rw [Rat.num_intCast]; exact h.pb hs, by rw [Rat.den_intCast]; decide⟩ (by decide) (by decide) (by decide)).repr (by decide) (by decide) (by decide)
  unfold sB mFz
  rw [fz12v h12]
  generalize encP (told0 es) = t0 at *
  generalize nums false es = nf at *
  generalize fr ((pwrs (s + 1) es : Int) : Rat) = u at *
  generalize pwrs (s + 1) es = z at *
  simp only [mSeq, mIfS, mRet, mRetN, mPass, mOrT, mAndT, mNotT, mAsB, mIsi, mName, mOwn, mC, mOp, mOp3, mCl, mCons, mNil, mFrz, mFrzD, mSeqI, mCall, mAndV, mOrV, mNotV, mIfE, mTup, mLst, mSet, mSetF, mSetD, mPar, mUn, mUn', mCut, mP, mNoP, mIsN, mIsNot, mRng, mKeys, mYes, gSet, gTupD, gsCons, gsNil, mFz, mDrop, mAsg, mAppend, ev0, frzAt, wipeE, rdV_vl, rdB_vl, rdB_ol, rdB_od, asB_b, asI_i, seqD_l, seqD_t, lenI1, lenI2, lenI3, lft_some, pure_bind, getE0, getES, List.set_cons_zero, List.set_cons_succ, List.map_cons, List.map_nil, List.cons_append, List.nil_append, List.replicate_succ, List.replicate_zero, List.append_nil, List.length_cons, List.length_nil, if_true, if_false, ite_true, ite_false, Bool.false_eq_true, reduceIte, Bool.not_true, Bool.not_false, Nat.reduceAdd, Nat.reduceSub, List.zip_cons_cons, List.zip_nil_right, List.foldl_cons, List.foldl_nil, h12, h13, h14, a, p, s2, ← nf, r, ne_str]
theorem for_s (h : Ex es) (h12 : f 12 = .vl (nums false es)) (h13 : f 13 = .vl (encP (told0 es))) : ∃ f', mFor (mRng rng2D (mCons (mC (.int 1)) (mCons (mIfE (mAsB (mOp gtD (mCl lenD (mCons (mOwn 12) (mNil))) (mC (.int 2)))) (mC (.int 8)) (mC (.int 13))) (mNil)))) (gSet 14) sB (F f) = pure (.nx (F f')) ∧ ∀ k, k ≠ 14 → f' k = f k := by
  have hr7 : rng2D [.int 1, .int 8] = some ((List.range 7).map fun (i : Nat) => PyData.int ((i + 1 : Nat) : Int)) := by
    rw [rng2D_ok (by decide) (by decide) (by decide) (by decide)]; rfl
  have hr12 : rng2D [.int 1, .int 13] = some ((List.range 12).map fun (i : Nat) => PyData.int ((i + 1 : Nat) : Int)) := by
    rw [rng2D_ok (by decide) (by decide) (by decide) (by decide)]; rfl
  have hn : sN es = if decide (2 < (es.length : Int)) then 7 else 12 := by
    unfold sN
    by_cases c : 2 < es.length
    · rw [if_pos c, decide_eq_true (show (2 : Int) < es.length by omega)]; rfl
    · rw [if_neg c, decide_eq_false (show ¬ (2 : Int) < es.length by omega)]; rfl
  obtain ⟨ρ', e1, f', rfl, hk⟩ := for_ix (g := fun (i : Nat) => PyData.int ((i + 1 : Nat) : Int)) (f := fun d ρ => do let ρ' ← gSet 14 d ρ; sB ρ') (S := fun i ρ => ∃ f', ρ = F f' ∧ ∀ k, k ≠ 14 → f' k = f k) (List.range (sN es)) (j := 0) (ρ := F f) ⟨f, rfl, fun _ _ => rfl⟩ fun i a ρ ha ⟨g, hρ, gk⟩ => by
    obtain ⟨rfl, hi⟩ := rng_ix ha
    subst hρ
    refine ⟨_, gb_ok (ρ1 := F (upd g 14 (.vl (.int ((a + 1 : Nat) : Int))))) rfl (sB_ok (f := upd g 14 (.vl (.int ((a + 1 : Nat) : Int)))) h hi ((gk 12 (by decide)).trans h12) ((gk 13 (by decide)).trans h13) rfl), _, rfl, fun k h1 => ?_⟩
    show (if k = 14 then _ else g k) = _
    rw [if_neg h1]
    exact gk k h1
  refine ⟨f', for_ok ?_ e1, hk⟩
  have ln : lenD [nums false es] = some (.int es.length) := by
    show some (PyData.int ((es.map fun (e : Nat) => PyData.int (e : Int)).length : Nat)) = _
    rw [List.length_map]
  have gt : gtD (.int es.length) (.int 2) = some (.bool (decide (2 < (es.length : Int)))) := rfl
  rw [hn]
  generalize nums false es = nf at *
  cases hb : decide (2 < (es.length : Int)) with
  | true =>
    rw [hb] at gt
    show _ = pure ((List.range 7).map fun (i : Nat) => PyData.int ((i + 1 : Nat) : Int))
    generalize (List.range 7).map (fun (i : Nat) => PyData.int ((i + 1 : Nat) : Int)) = rr at *
    simp only [mSeq, mIfS, mRet, mRetN, mPass, mOrT, mAndT, mNotT, mAsB, mIsi, mName, mOwn, mC, mOp, mOp3, mCl, mCons, mNil, mFrz, mFrzD, mSeqI, mCall, mAndV, mOrV, mNotV, mIfE, mTup, mLst, mSet, mSetF, mSetD, mPar, mUn, mUn', mCut, mP, mNoP, mIsN, mIsNot, mRng, mKeys, mYes, gSet, gTupD, gsCons, gsNil, mFz, mDrop, mAsg, mAppend, ev0, frzAt, wipeE, rdV_vl, rdB_vl, rdB_ol, rdB_od, asB_b, asI_i, seqD_l, seqD_t, lenI1, lenI2, lenI3, lft_some, pure_bind, getE0, getES, List.set_cons_zero, List.set_cons_succ, List.map_cons, List.map_nil, List.cons_append, List.nil_append, List.replicate_succ, List.replicate_zero, List.append_nil, List.length_cons, List.length_nil, if_true, if_false, ite_true, ite_false, Bool.false_eq_true, reduceIte, Bool.not_true, Bool.not_false, Nat.reduceAdd, Nat.reduceSub, List.zip_cons_cons, List.zip_nil_right, List.foldl_cons, List.foldl_nil, h12, ln, gt, hr7]
  | false =>
    rw [hb] at gt
    show _ = pure ((List.range 12).map fun (i : Nat) => PyData.int ((i + 1 : Nat) : Int))
    generalize (List.range 12).map (fun (i : Nat) => PyData.int ((i + 1 : Nat) : Int)) = rr at *
    simp only [mSeq, mIfS, mRet, mRetN, mPass, mOrT, mAndT, mNotT, mAsB, mIsi, mName, mOwn, mC, mOp, mOp3, mCl, mCons, mNil, mFrz, mFrzD, mSeqI, mCall, mAndV, mOrV, mNotV, mIfE, mTup, mLst, mSet, mSetF, mSetD, mPar, mUn, mUn', mCut, mP, mNoP, mIsN, mIsNot, mRng, mKeys, mYes, gSet, gTupD, gsCons, gsNil, mFz, mDrop, mAsg, mAppend, ev0, frzAt, wipeE, rdV_vl, rdB_vl, rdB_ol, rdB_od, asB_b, asI_i, seqD_l, seqD_t, lenI1, lenI2, lenI3, lft_some, pure_bind, getE0, getES, List.set_cons_zero, List.set_cons_succ, List.map_cons, List.map_nil, List.cons_append, List.nil_append, List.replicate_succ, List.replicate_zero, List.append_nil, List.length_cons, List.length_nil, if_true, if_false, ite_true, ite_false, Bool.false_eq_true, reduceIte, Bool.not_true, Bool.not_false, Nat.reduceAdd, Nat.reduceSub, List.zip_cons_cons, List.zip_nil_right, List.foldl_cons, List.foldl_nil, h12, ln, gt, hr12]
theorem sum_nums : sumD [nums false es] = some (.int (es.sum : Nat)) := by
  have e : (nums false es) = .list ((es.map fun (e : Nat) => (e : Int)).map PyData.int) := by
    unfold nums; rw [List.map_map]; rfl
  rw [e]
  show (intsOf _).map (fun ns => PyData.int ns.sum) = _
  rw [intsOf_ints]
  show some (PyData.int _) = _
  congr 2
  induction es with
  | nil => rfl
  | cons a r ih =>
    rw [List.map_cons, List.sum_cons, List.sum_cons, Int.natCast_add]
    rw [ih (by unfold nums; rw [List.map_map]; rfl)]
theorem len_nums : lenD [nums false es] = some (.int es.length) := by
  show some (PyData.int ((es.map fun (e : Nat) => PyData.int (e : Int)).length : Nat)) = _
  rw [List.length_map]
theorem eq_nums : eqD (nums false es) (.list []) = some (.bool es.isEmpty) := by
  show eqD (.list (es.map _)) _ = _
  rw [eqD_nil]; cases es <;> rfl
theorem ne_nums : neD (nums false es) (.list []) = some (.bool (!es.isEmpty)) := by
  show neD (.list (es.map _)) _ = _
  rw [neD_nil]; cases es <;> rfl
theorem ix_head (d : PyData) (ds : List PyData) : ixD (.tuple (d :: ds)) (.int 0) = some d := by
  show L2.atI (d :: ds) 0 = _
  unfold L2.atI
  have e : L2.ixN (d :: ds).length 0 = some 0 := by
    unfold L2.ixN
    rw [if_pos (by decide), if_pos (by rw [List.length_cons]; omega)]; rfl
  rw [e]; rfl
/-- the ends of the powers -/
structure Ends (es : List Nat) : Prop where
  a : ∃ x : PyData, ixD (encP (told0 es)) (.int (-1)) = some x ∧ ixD x (.int 0) = some (.int ((es.sum + es.length : Nat) : Int))
  b : ∃ x : PyData, ∃ i : Int, ixD (encP (told0 es)) (.int 0) = some x ∧ ixD x (.int 0) = some (.int i) ∧ decide (i = 0) = es.isEmpty
theorem Ex.ends (h : Ex es) : Ends es := by
  cases es with
  | nil =>
    refine ⟨?_, ?_⟩
    · rw [h.nil]; exact ⟨en (0, 1), rfl, rfl⟩
    · rw [h.nil]; exact ⟨en (0, 1), 0, rfl, rfl, rfl⟩
  | cons a r =>
    have E := h.cons
    refine ⟨?_, ?_⟩
    · refine ⟨en ((told0 (a :: r)).getLastD (0, 0)), ix_last ?_, ?_⟩
      · rw [List.getLast?_map, List.getLastD_eq_getLast?]
        cases q : (told0 (a :: r)).getLast? with
        | none => exact absurd (List.getLast?_eq_none_iff.mp q) E.ne
        | some x => rfl
      · rw [← E.last]; rfl
    · cases q : told0 (a :: r) with
      | nil => exact absurd q E.ne
      | cons x xs =>
        have := E.r x (by rw [q]; exact List.mem_cons_self)
        exact ⟨en x, x.1, ix_head _ _, rfl, decide_eq_false (by omega)⟩
theorem if_ends (h : Ex es) (h12 : f 12 = .vl (nums false es)) (h13 : f 13 = .vl (encP (told0 es))) : (mIfS (mOrT (mAsB (mOp neD (mOp ixD (mOp ixD (mName 13) (mUn negD (mC (.int 1)))) (mC (.int 0))) (mOp addD (mCl sumD (mCons (mOwn 12) (mNil))) (mCl lenD (mCons (mOwn 12) (mNil)))))) (mAsB (mOp neD (mOp eqD (mOp ixD (mOp ixD (mName 13) (mC (.int 0))) (mC (.int 0))) (mC (.int 0))) (mOp eqD (mOwn 12) (mFrz (mLst (mNil))))))) (mRet (mC (.bool false))) (mPass)) (F f) = pure (.nx (F f)) := by
  obtain ⟨⟨x, a1, a2⟩, y, i, b1, b2, b3⟩ := h.ends
  have n1 : negD (.int 1) = some (.int (-1)) := rfl
  have sm := sum_nums (es := es)
  have ln := len_nums (es := es)
  have eq := eq_nums (es := es)
  have ad : addD (.int (es.sum : Nat)) (.int es.length) = some (.int ((es.sum + es.length : Nat) : Int)) := rfl
  have ni := neD_int ((es.sum + es.length : Nat) : Int) ((es.sum + es.length : Nat) : Int)
  rw [decide_eq_true rfl] at ni
  have e0 := eqD_int i 0
  rw [b3] at e0
  have nb := ne_bool es.isEmpty es.isEmpty
  rw [bne_self_eq_false] at nb
  generalize encP (told0 es) = t0 at *
  generalize nums false es = nf at *
  generalize ((es.sum + es.length : Nat) : Int) = z at *
  have s0 : sz ([] : List PyData) = some [] := rfl
  simp only [mSeq, mIfS, mRet, mRetN, mPass, mOrT, mAndT, mNotT, mAsB, mIsi, mName, mOwn, mC, mOp, mOp3, mCl, mCons, mNil, mFrz, mFrzD, mSeqI, mCall, mAndV, mOrV, mNotV, mIfE, mTup, mLst, mSet, mSetF, mSetD, mPar, mUn, mUn', mCut, mP, mNoP, mIsN, mIsNot, mRng, mKeys, mYes, gSet, gTupD, gsCons, gsNil, mFz, mDrop, mAsg, mAppend, ev0, frzAt, wipeE, rdV_vl, rdB_vl, rdB_ol, rdB_od, asB_b, asI_i, seqD_l, seqD_t, lenI1, lenI2, lenI3, lft_some, pure_bind, getE0, getES, List.set_cons_zero, List.set_cons_succ, List.map_cons, List.map_nil, List.cons_append, List.nil_append, List.replicate_succ, List.replicate_zero, List.append_nil, List.length_cons, List.length_nil, if_true, if_false, ite_true, ite_false, Bool.false_eq_true, reduceIte, Bool.not_true, Bool.not_false, Nat.reduceAdd, Nat.reduceSub, List.zip_cons_cons, List.zip_nil_right, List.foldl_cons, List.foldl_nil, h12, h13, n1, a1, a2, b1, b2, sm, ln, eq, ad, ni, e0, nb, s0]
theorem cut1 (ds : List PyData) : cutP ds (some 1) none = ds.drop 1 := by
  unfold cutP
  cases ds with
  | nil => rfl
  | cons d r =>
    have h : HT.sIx (d :: r).length 0 (some 1) = 1 := by
      unfold HT.sIx
      simp
    rw [h, HT.sIx_none, List.take_of_length_le]
    rw [List.length_drop]
    exact Nat.le_refl _
theorem one_ok {e : Nat} (h : Ex [e]) (h12 : f 12 = .vl (nums false [e])) (h13 : f 13 = .vl (encP (told0 [e]))) : (mSeq (mSet 15 (mCall 2 mf_poly_sum (mCons (mCall 1 mf_sum_below (mCons (mOp ixD (mOwn 12) (mC (.int 0))) (mNil))) (mCons (mTup (mCons (mTup (mCons (mOp ixD (mOwn 12) (mC (.int 0))) (mCons (mTup (mCons (mC (.int 1)) (mCons (mC (.int 1)) (mNil)))) (mNil)))) (mNil))) (mNil))))) (mIfS (mAsB (mOp neD (mCl reprL (mCons (mName 15) (mNil))) (mCl reprL (mCons (mName 13) (mNil))))) (mRet (mC (.bool false))) (mPass))) (F f) = pure (.nx (F (upd f 15 (.vl (encP (told0 [e])))))) := by
  have he := h.le e List.mem_cons_self
  have sb := sum_below_ok (e := e) (by omega)
  obtain ⟨b1, b2, b3⟩ := sbl_ok (e := e) (by omega)
  have ps : mf_poly_sum [encP (sbl e), encP [((e : Int), 1)]] = pure (encP (told0 [e])) := by
    rw [h.cons.one e rfl]
    have la : (sbl e ++ [((e : Int), (1 : Rat))]).length ≤ 10 := by rw [List.length_append]; exact Nat.add_le_add b2 (Nat.le_refl 1)
    exact psum_ok (put_eq (N := 12252240) (k := 12) (m := 10000) ⟨by decide, p400 (by decide), by decide, by omega, app_q b1 (fun x hx => by cases List.mem_singleton.mp hx; exact (q_nat 1 12 (by decide)).up (Nat.one_dvd _)), by omega⟩ (by omega) (cfP_ok _))
  have ix : ixD (nums false [e]) (.int 0) = some (.int (e : Nat)) := rfl
  have en1 : PyData.tuple [PyData.tuple [.int (e : Nat), .tuple [.int 1, .int 1]]] = encP [((e : Int), 1)] := by
    show _ = PyData.tuple [PyData.tuple [.int (e : Int), fr 1]]
    rw [← one_fr]; rfl
  have r := h.to.repr
  have k : upd f 15 (.vl (encP (told0 [e]))) 13 = .vl (encP (told0 [e])) := h13
  have k' : upd f 15 (.vl (encP (told0 [e]))) 15 = .vl (encP (told0 [e])) := rfl
  have i1 : (mSet 15 (mCall 2 mf_poly_sum (mCons (mCall 1 mf_sum_below (mCons (mOp ixD (mOwn 12) (mC (.int 0))) (mNil))) (mCons (mTup (mCons (mTup (mCons (mOp ixD (mOwn 12) (mC (.int 0))) (mCons (mTup (mCons (mC (.int 1)) (mCons (mC (.int 1)) (mNil)))) (mNil)))) (mNil))) (mNil))))) (F f) = pure (.nx (F (upd f 15 (.vl (encP (told0 [e])))))) := by
    generalize encP (told0 [e]) = t0 at *
    generalize encP (sbl e) = sb at *
    generalize encP [((e : Int), 1)] = q at *
    generalize nums false [e] = nf at *
    simp only [mSeq, mIfS, mRet, mRetN, mPass, mOrT, mAndT, mNotT, mAsB, mIsi, mName, mOwn, mC, mOp, mOp3, mCl, mCons, mNil, mFrz, mFrzD, mSeqI, mCall, mAndV, mOrV, mNotV, mIfE, mTup, mLst, mSet, mSetF, mSetD, mPar, mUn, mUn', mCut, mP, mNoP, mIsN, mIsNot, mRng, mKeys, mYes, gSet, gTupD, gsCons, gsNil, mFz, mDrop, mAsg, mAppend, ev0, frzAt, wipeE, rdV_vl, rdB_vl, rdB_ol, rdB_od, asB_b, asI_i, seqD_l, seqD_t, lenI1, lenI2, lenI3, lft_some, pure_bind, getE0, getES, List.set_cons_zero, List.set_cons_succ, List.map_cons, List.map_nil, List.cons_append, List.nil_append, List.replicate_succ, List.replicate_zero, List.append_nil, List.length_cons, List.length_nil, if_true, if_false, ite_true, ite_false, Bool.false_eq_true, reduceIte, Bool.not_true, Bool.not_false, Nat.reduceAdd, Nat.reduceSub, List.zip_cons_cons, List.zip_nil_right, List.foldl_cons, List.foldl_nil, h12, ix, sb, s2, s1, en1, ps]
    rw [← h12]; rfl
  show mSeq _ _ _ = _
  rw [seq_nx i1]
  generalize upd f 15 (.vl (encP (told0 [e]))) = g at *
  generalize encP (told0 [e]) = t0 at *
  simp only [mSeq, mIfS, mRet, mRetN, mPass, mOrT, mAndT, mNotT, mAsB, mIsi, mName, mOwn, mC, mOp, mOp3, mCl, mCons, mNil, mFrz, mFrzD, mSeqI, mCall, mAndV, mOrV, mNotV, mIfE, mTup, mLst, mSet, mSetF, mSetD, mPar, mUn, mUn', mCut, mP, mNoP, mIsN, mIsNot, mRng, mKeys, mYes, gSet, gTupD, gsCons, gsNil, mFz, mDrop, mAsg, mAppend, ev0, frzAt, wipeE, rdV_vl, rdB_vl, rdB_ol, rdB_od, asB_b, asI_i, seqD_l, seqD_t, lenI1, lenI2, lenI3, lft_some, pure_bind, getE0, getES, List.set_cons_zero, List.set_cons_succ, List.map_cons, List.map_nil, List.cons_append, List.nil_append, List.replicate_succ, List.replicate_zero, List.append_nil, List.length_cons, List.length_nil, if_true, if_false, ite_true, ite_false, Bool.false_eq_true, reduceIte, Bool.not_true, Bool.not_false, Nat.reduceAdd, Nat.reduceSub, List.zip_cons_cons, List.zip_nil_right, List.foldl_cons, List.foldl_nil, k, k', r, ne_str]
theorem if_one (h : Ex es) (h12 : f 12 = .vl (nums false es)) (h13 : f 13 = .vl (encP (told0 es))) : ∃ d, (mIfS (mAndT (mAsB (mOp neD (mOwn 12) (mFrz (mLst (mNil))))) (mAsB (mOp eqD (mCut cutD (mOwn 12) (mP (mC (.int 1))) (mNoP)) (mFrz (mLst (mNil)))))) (mSeq (mSet 15 (mCall 2 mf_poly_sum (mCons (mCall 1 mf_sum_below (mCons (mOp ixD (mOwn 12) (mC (.int 0))) (mNil))) (mCons (mTup (mCons (mTup (mCons (mOp ixD (mOwn 12) (mC (.int 0))) (mCons (mTup (mCons (mC (.int 1)) (mCons (mC (.int 1)) (mNil)))) (mNil)))) (mNil))) (mNil))))) (mIfS (mAsB (mOp neD (mCl reprL (mCons (mName 15) (mNil))) (mCl reprL (mCons (mName 13) (mNil))))) (mRet (mC (.bool false))) (mPass))) (mPass)) (F f) = pure (.nx (F (upd f 15 d))) := by
  have nn := ne_nums (es := es)
  have ct : cutD (nums false es) (some 1) none = some (nums false (es.drop 1)) := by
    show some (PyData.list (cutP (es.map fun (e : Nat) => PyData.int (e : Int)) (some 1) none)) = _
    rw [cut1, ← List.map_drop]; rfl
  have eq := eq_nums (es := es.drop 1)
  have s0 : sz ([] : List PyData) = some [] := rfl
  have same : F (upd f 15 (f 15)) = F f := rfl
  by_cases z : ∃ e, es = [e]
  · obtain ⟨e, rfl⟩ := z
    refine ⟨_, (?_ : _ = _).trans (one_ok h h12 h13)⟩
    have nn : neD (nums false [e]) (.list []) = some (.bool true) := nn
    have eq : eqD (nums false []) (.list []) = some (.bool true) := eq
    have ct : cutD (nums false [e]) (some 1) none = some (nums false []) := ct
    generalize (mSeq (mSet 15 (mCall 2 mf_poly_sum (mCons (mCall 1 mf_sum_below (mCons (mOp ixD (mOwn 12) (mC (.int 0))) (mNil))) (mCons (mTup (mCons (mTup (mCons (mOp ixD (mOwn 12) (mC (.int 0))) (mCons (mTup (mCons (mC (.int 1)) (mCons (mC (.int 1)) (mNil)))) (mNil)))) (mNil))) (mNil))))) (mIfS (mAsB (mOp neD (mCl reprL (mCons (mName 15) (mNil))) (mCl reprL (mCons (mName 13) (mNil))))) (mRet (mC (.bool false))) (mPass))) = big
    generalize nums false [e] = nf at *
    generalize nums false [] = ne at *
    simp only [mSeq, mIfS, mRet, mRetN, mPass, mOrT, mAndT, mNotT, mAsB, mIsi, mName, mOwn, mC, mOp, mOp3, mCl, mCons, mNil, mFrz, mFrzD, mSeqI, mCall, mAndV, mOrV, mNotV, mIfE, mTup, mLst, mSet, mSetF, mSetD, mPar, mUn, mUn', mCut, mP, mNoP, mIsN, mIsNot, mRng, mKeys, mYes, gSet, gTupD, gsCons, gsNil, mFz, mDrop, mAsg, mAppend, ev0, frzAt, wipeE, rdV_vl, rdB_vl, rdB_ol, rdB_od, asB_b, asI_i, seqD_l, seqD_t, lenI1, lenI2, lenI3, lft_some, pure_bind, getE0, getES, List.set_cons_zero, List.set_cons_succ, List.map_cons, List.map_nil, List.cons_append, List.nil_append, List.replicate_succ, List.replicate_zero, List.append_nil, List.length_cons, List.length_nil, if_true, if_false, ite_true, ite_false, Bool.false_eq_true, reduceIte, Bool.not_true, Bool.not_false, Nat.reduceAdd, Nat.reduceSub, List.zip_cons_cons, List.zip_nil_right, List.foldl_cons, List.foldl_nil, h12, nn, ct, eq, s0]
  · refine ⟨f 15, ?_⟩
    rw [same]
    generalize (mSeq (mSet 15 (mCall 2 mf_poly_sum (mCons (mCall 1 mf_sum_below (mCons (mOp ixD (mOwn 12) (mC (.int 0))) (mNil))) (mCons (mTup (mCons (mTup (mCons (mOp ixD (mOwn 12) (mC (.int 0))) (mCons (mTup (mCons (mC (.int 1)) (mCons (mC (.int 1)) (mNil)))) (mNil)))) (mNil))) (mNil))))) (mIfS (mAsB (mOp neD (mCl reprL (mCons (mName 15) (mNil))) (mCl reprL (mCons (mName 13) (mNil))))) (mRet (mC (.bool false))) (mPass))) = big
    cases es with
    | nil =>
      have nn : neD (nums false []) (.list []) = some (.bool false) := nn
      generalize nums false [] = nf at *
      simp only [mSeq, mIfS, mRet, mRetN, mPass, mOrT, mAndT, mNotT, mAsB, mIsi, mName, mOwn, mC, mOp, mOp3, mCl, mCons, mNil, mFrz, mFrzD, mSeqI, mCall, mAndV, mOrV, mNotV, mIfE, mTup, mLst, mSet, mSetF, mSetD, mPar, mUn, mUn', mCut, mP, mNoP, mIsN, mIsNot, mRng, mKeys, mYes, gSet, gTupD, gsCons, gsNil, mFz, mDrop, mAsg, mAppend, ev0, frzAt, wipeE, rdV_vl, rdB_vl, rdB_ol, rdB_od, asB_b, asI_i, seqD_l, seqD_t, lenI1, lenI2, lenI3, lft_some, pure_bind, getE0, getES, List.set_cons_zero, List.set_cons_succ, List.map_cons, List.map_nil, List.cons_append, List.nil_append, List.replicate_succ, List.replicate_zero, List.append_nil, List.length_cons, List.length_nil, if_true, if_false, ite_true, ite_false, Bool.false_eq_true, reduceIte, Bool.not_true, Bool.not_false, Nat.reduceAdd, Nat.reduceSub, List.zip_cons_cons, List.zip_nil_right, List.foldl_cons, List.foldl_nil, h12, nn, s0]
    | cons a r =>
      cases r with
      | nil => exact absurd ⟨a, rfl⟩ z
      | cons b r =>
        have nn : neD (nums false (a :: b :: r)) (.list []) = some (.bool true) := nn
        have eq : eqD (nums false (b :: r)) (.list []) = some (.bool false) := eq
        have ct : cutD (nums false (a :: b :: r)) (some 1) none = some (nums false (b :: r)) := ct
        generalize nums false (a :: b :: r) = nf at *
        generalize nums false (b :: r) = ne at *
        simp only [mSeq, mIfS, mRet, mRetN, mPass, mOrT, mAndT, mNotT, mAsB, mIsi, mName, mOwn, mC, mOp, mOp3, mCl, mCons, mNil, mFrz, mFrzD, mSeqI, mCall, mAndV, mOrV, mNotV, mIfE, mTup, mLst, mSet, mSetF, mSetD, mPar, mUn, mUn', mCut, mP, mNoP, mIsN, mIsNot, mRng, mKeys, mYes, gSet, gTupD, gsCons, gsNil, mFz, mDrop, mAsg, mAppend, ev0, frzAt, wipeE, rdV_vl, rdB_vl, rdB_ol, rdB_od, asB_b, asI_i, seqD_l, seqD_t, lenI1, lenI2, lenI3, lft_some, pure_bind, getE0, getES, List.set_cons_zero, List.set_cons_succ, List.map_cons, List.map_nil, List.cons_append, List.nil_append, List.replicate_succ, List.replicate_zero, List.append_nil, List.length_cons, List.length_nil, if_true, if_false, ite_true, ite_false, Bool.false_eq_true, reduceIte, Bool.not_true, Bool.not_false, Nat.reduceAdd, Nat.reduceSub, List.zip_cons_cons, List.zip_nil_right, List.foldl_cons, List.foldl_nil, h12, nn, ct, eq, s0]
theorem sbl0 : sbl 0 = [(0, -1), (1, 1)] := by decide +kernel
theorem last_ok : (mRet (mAndV (mOp eqD (mCall 1 mf_power_sum (mCons (mTup (mCons (mC (.int 0)) (mCons (mC (.int 0)) (mNil)))) (mNil))) (mTup (mCons (mTup (mCons (mC (.int 1)) (mCons (mTup (mCons (mUn negD (mC (.int 1))) (mCons (mC (.int 2)) (mNil)))) (mNil)))) (mCons (mTup (mCons (mC (.int 2)) (mCons (mTup (mCons (mC (.int 1)) (mCons (mC (.int 2)) (mNil)))) (mNil)))) (mNil))))) (mOp eqD (mCall 1 mf_sum_below (mCons (mC (.int 0)) (mNil))) (mTup (mCons (mTup (mCons (mC (.int 0)) (mCons (mTup (mCons (mUn negD (mC (.int 1))) (mCons (mC (.int 1)) (mNil)))) (mNil)))) (mCons (mTup (mCons (mC (.int 1)) (mCons (mTup (mCons (mC (.int 1)) (mCons (mC (.int 1)) (mNil)))) (mNil)))) (mNil))))))) (F f) = pure (.rt (.bool true)) := by
  have h : Ex [0, 0] := ⟨fun e he => by simp at he; omega, by decide⟩
  have p : mf_power_sum [.tuple [.int 0, .int 0]] = pure (encP (told0 [0, 0])) := h.pw true
  have s := sum_below_ok (e := 0) (by decide)
  have n1 : negD (.int 1) = some (.int (-1)) := rfl
  have e1 : PyData.tuple [.tuple [.int 1, .tuple [.int (-1), .int 2]], .tuple [.int 2, .tuple [.int 1, .int 2]]] = encP (told0 [0, 0]) := by
    rw [fin_all]
    have a : fr (-1 / 2 : Rat) = .tuple [.int (-1), .int 2] := by
      unfold fr
      rw [show (-1 / 2 : Rat).num = -1 by decide +kernel, show (-1 / 2 : Rat).den = 2 by decide +kernel]; rfl
    have b : fr (1 / 2 : Rat) = .tuple [.int 1, .int 2] := by
      unfold fr
      rw [show (1 / 2 : Rat).num = 1 by decide +kernel, show (1 / 2 : Rat).den = 2 by decide +kernel]; rfl
    show _ = PyData.tuple [.tuple [.int 1, fr (-1 / 2 : Rat)], .tuple [.int 2, fr (1 / 2 : Rat)]]
    rw [a, b]
  have e2 : PyData.tuple [.tuple [.int 0, .tuple [.int (-1), .int 1]], .tuple [.int 1, .tuple [.int 1, .int 1]]] = encP (sbl 0) := by
    rw [sbl0]
    have a : fr (-1 : Rat) = .tuple [.int (-1), .int 1] := by
      unfold fr
      rw [show (-1 : Rat).num = -1 by decide +kernel, show (-1 : Rat).den = 1 by decide +kernel]; rfl
    have b : fr (1 : Rat) = .tuple [.int 1, .int 1] := by
      unfold fr
      rw [show (1 : Rat).num = 1 by decide +kernel, show (1 : Rat).den = 1 by decide +kernel]; rfl
    show _ = PyData.tuple [.tuple [.int 0, fr (-1 : Rat)], .tuple [.int 1, fr (1 : Rat)]]
    rw [a, b]
  have q1 := eq_P (told0 [0, 0]) (told0 [0, 0])
  have q2 := eq_P (sbl 0) (sbl 0)
  rw [decide_eq_true rfl] at q1 q2
  have s' : mf_sum_below [.int 0] = pure (encP (sbl 0)) := s
  generalize encP (told0 [0, 0]) = t0 at *
  generalize encP (sbl 0) = t1 at *
  simp only [mSeq, mIfS, mRet, mRetN, mPass, mOrT, mAndT, mNotT, mAsB, mIsi, mName, mOwn, mC, mOp, mOp3, mCl, mCons, mNil, mFrz, mFrzD, mSeqI, mCall, mAndV, mOrV, mNotV, mIfE, mTup, mLst, mSet, mSetF, mSetD, mPar, mUn, mUn', mCut, mP, mNoP, mIsN, mIsNot, mRng, mKeys, mYes, gSet, gTupD, gsCons, gsNil, mFz, mDrop, mAsg, mAppend, ev0, frzAt, wipeE, rdV_vl, rdB_vl, rdB_ol, rdB_od, asB_b, asI_i, seqD_l, seqD_t, lenI1, lenI2, lenI3, lft_some, pure_bind, getE0, getES, List.set_cons_zero, List.set_cons_succ, List.map_cons, List.map_nil, List.cons_append, List.nil_append, List.replicate_succ, List.replicate_zero, List.append_nil, List.length_cons, List.length_nil, if_true, if_false, ite_true, ite_false, Bool.false_eq_true, reduceIte, Bool.not_true, Bool.not_false, Nat.reduceAdd, Nat.reduceSub, List.zip_cons_cons, List.zip_nil_right, List.foldl_cons, List.foldl_nil, p, s', n1, s2, e1, e2, q1, q2]
end
end K30
end

section
set_option Elab.async false
set_option linter.all false
set_option maxRecDepth 100000
set_option maxHeartbeats 1000000
namespace K30
open PySem PySem.Spec PyProof.Rows L2 DL PL
theorem st_go {m1 m2 : Ev → M Fl} {ρ ρ' : Ev} {Qf : Fl → Prop} (e : m1 ρ = pure (.nx ρ')) (h : Tri (m2 ρ') Qf) : Tri (mSeq m1 m2 ρ) Qf := by
  rw [seq_nx e]; exact h
theorem law_tri : Tri (m_law (evL 18)) fun fl => fl = .rt (.bool true) := by
  have hr : rng1D [.int 3] = some (rngD 0 3) := rng1D_ok (by decide) (by decide)
  unfold m_law
  refine t_seq (I := Src) (t_for (P := fun _ => True) (I := Src) (Tri.eq (a := rngD 0 3) (by simp only [mSeq, mIfS, mRet, mRetN, mPass, mOrT, mAndT, mNotT, mAsB, mIsi, mName, mOwn, mC, mOp, mOp3, mCl, mCons, mNil, mFrz, mFrzD, mSeqI, mCall, mAndV, mOrV, mNotV, mIfE, mTup, mLst, mSet, mSetF, mSetD, mPar, mUn, mUn', mCut, mP, mNoP, mIsN, mIsNot, mRng, mKeys, mYes, gSet, gTupD, gsCons, gsNil, mFz, mDrop, mAsg, mAppend, ev0, frzAt, wipeE, rdV_vl, rdB_vl, rdB_ol, rdB_od, asB_b, asI_i, seqD_l, seqD_t, lenI1, lenI2, lenI3, lft_some, pure_bind, getE0, getES, List.set_cons_zero, List.set_cons_succ, List.map_cons, List.map_nil, List.cons_append, List.nil_append, List.replicate_succ, List.replicate_zero, List.append_nil, List.length_cons, List.length_nil, if_true, if_false, ite_true, ite_false, Bool.false_eq_true, reduceIte, Bool.not_true, Bool.not_false, Nat.reduceAdd, Nat.reduceSub, List.zip_cons_cons, List.zip_nil_right, List.foldl_cons, List.foldl_nil, hr]) trivial) ?_ (fun ds _ d _ ρ h => ?_) fun ρ' h => ⟨ρ', rfl, h⟩) fun ρ ⟨f, e, _⟩ => Tri.eq (by rw [e]; exact last_ok) rfl
  · exact ⟨fun i => if i = 1 then .src else .no, rfl, rfl⟩
  obtain ⟨f, rfl, h1⟩ := h
  refine Tri.pure (a := F (upd f 2 (.vl d))) ?_
  have h1 : upd f 2 (.vl d) 1 = .src := h1
  generalize upd f 2 (.vl d) = f at h1 ⊢
  refine t_seq (I := fun ρ => ∃ (f : Nat → Sl) (e : Nat), e < 13 ∧ ρ = F f ∧ f 1 = .src ∧ f 3 = .vl (.int (e : Nat))) ((e_draw h1).mono fun fl ⟨e, he, q⟩ => ⟨_, q, _, e, he, rfl, h1, rfl⟩) ?_
  clear h1 f
  rintro ρ ⟨f, e, he, rfl, h1, h3⟩
  refine st_go (par45 he h3) ?_
  obtain ⟨f2, p1, p2⟩ := for_y (f := upd (upd f 4 (.vl (encP (sbl e)))) 5 (.vl (.int 0))) he h3 rfl rfl
  refine st_go p1 ?_
  have k1 : f2 1 = .src := (p2 1 (by decide) (by decide) (by decide) (by decide)).trans h1
  have k3 : f2 3 = .vl (.int (e : Nat)) := (p2 3 (by decide) (by decide) (by decide) (by decide)).trans h3
  have k4 : f2 4 = .vl (encP (sbl e)) := p2 4 (by decide) (by decide) (by decide) (by decide)
  clear p1 p2 h1 h3 f
  refine st_go (if_below he k3 k4) ?_
  clear k3 k4
  refine t_seq (I := fun ρ => ∃ (f : Nat → Sl) (P : Po), NP P ∧ ρ = F f ∧ f 1 = .src ∧ f 9 = .vl (encP P)) ((poly_draw k1).mono fun fl ⟨P, hP, q⟩ => ⟨_, q, _, P, hP, rfl, k1, rfl⟩) ?_
  clear k1 f2 he e
  rintro ρ ⟨f, P, hP, rfl, h1, h9⟩
  obtain ⟨G, hG, eG⟩ := summed_ok (np_pin hP)
  refine st_go (par1011 eG h9) ?_
  obtain ⟨f2, p1, p2⟩ := for_z (f := upd (upd f 10 (.vl (encP G))) 11 (.vl (fr 0))) hP hG h9 rfl rfl
  refine st_go p1 ?_
  have k1 : f2 1 = .src := (p2 1 (by decide) (by decide)).trans h1
  clear p1 p2 h1 h9 f
  refine t_seq (I := fun ρ => ∃ (f : Nat → Sl) (es : List Nat), Ex es ∧ ρ = F f ∧ f 1 = .src ∧ f 12 = .ol (eI es)) ((ex_draw k1).mono fun fl ⟨es, hes, q⟩ => ⟨_, q, _, es, hes, rfl, k1, rfl⟩) ?_
  clear k1 f2 eG hG G hP P
  rintro ρ ⟨f, es, hes, rfl, h1, h12⟩
  refine st_go (told_set hes h12) ?_
  have h1 : upd (upd f 12 (.vl (nums false es))) 13 (.vl (encP (told0 es))) 1 = .src := h1
  have h12 : upd (upd f 12 (.vl (nums false es))) 13 (.vl (encP (told0 es))) 12 = .vl (nums false es) := rfl
  have h13 : upd (upd f 12 (.vl (nums false es))) 13 (.vl (encP (told0 es))) 13 = .vl (encP (told0 es)) := rfl
  generalize upd (upd f 12 (.vl (nums false es))) 13 (.vl (encP (told0 es))) = f at h1 h12 h13 ⊢
  refine st_go (if_told hes h12 h13) ?_
  obtain ⟨f2, p1, p2⟩ := for_s hes h12 h13
  refine st_go p1 ?_
  have k1 : f2 1 = .src := (p2 1 (by decide)).trans h1
  have k12 : f2 12 = .vl (nums false es) := (p2 12 (by decide)).trans h12
  have k13 : f2 13 = .vl (encP (told0 es)) := (p2 13 (by decide)).trans h13
  clear p1 p2 h1 h12 h13 f
  refine st_go (if_ends hes k12 k13) ?_
  obtain ⟨x, e⟩ := if_one hes k12 k13
  exact Tri.eq e ⟨_, rfl, _, rfl, k1⟩
theorem law_ok : LawOk 18 m_law := fun ns hl _ => by
  obtain ⟨a, st', e, _, h⟩ := law_tri (openS ns) (openS_ok hl)
  subst h
  exact ⟨st', e⟩
end K30
end

section
set_option Elab.async false
set_option linter.all false
set_option maxRecDepth 100000
set_option maxHeartbeats 4000000
namespace K30
open PySem PySem.Spec PyProof.Rows L2 DL
theorem all_mk {l : PySem.W.OpenLaw} {w : World} {K : PySem.W.Frag} {h : Heap} {mg : Str → Option Value} {fa f0 f1 f2 f3 f4 f5 f6 f7 f8 f9 f10 f11 f12 f13 f14 f15 f16 f17 f18 f19 f20 f21 f22 f23 f24 f25 f26 f27 : Addr} (X : K.In h) (G : h.Ns mainGlobals mg) (hfa : mg "law" = some (.ref fa)) (hm : LawOk 18 m_law)
    {od0 an0 od1 an1 od2 an2 od3 an3 od4 an4 od5 an5 od6 an6 od7 an7 od8 an8 od9 an9 od10 an10 od11 an11 od12 an12 od13 an13 od14 an14 od15 an15 od16 an16 od17 an17 od18 an18 od19 an19 od20 an20 od21 an21 od22 an22 od23 an23 od24 an24 od25 an25 od26 an26 od27 an27 : Option Addr} {sl0 sl1 sl2 sl3 sl4 sl5 sl6 sl7 sl8 sl9 sl10 sl11 sl12 sl13 sl14 sl15 sl16 sl17 sl18 sl19 sl20 sl21 sl22 sl23 sl24 sl25 sl26 sl27 : Array (Option Value)} {oc0 kV0 dc0 pm0 cd0 ct0 oc1 kV1 dc1 pm1 cd1 ct1 oc2 kV2 dc2 pm2 cd2 ct2 oc3 kV3 dc3 pm3 cd3 ct3 oc4 kV4 dc4 pm4 cd4 ct4 oc5 kV5 dc5 pm5 cd5 ct5 oc6 kV6 dc6 pm6 cd6 ct6 oc7 kV7 dc7 pm7 cd7 ct7 oc8 kV8 dc8 pm8 cd8 ct8 oc9 kV9 dc9 pm9 cd9 ct9 oc10 kV10 dc10 pm10 cd10 ct10 oc11 kV11 dc11 pm11 cd11 ct11 oc12 kV12 dc12 pm12 cd12 ct12 oc13 kV13 dc13 pm13 cd13 ct13 oc14 kV14 dc14 pm14 cd14 ct14 oc15 kV15 dc15 pm15 cd15 ct15 oc16 kV16 dc16 pm16 cd16 ct16 oc17 kV17 dc17 pm17 cd17 ct17 oc18 kV18 dc18 pm18 cd18 ct18 oc19 kV19 dc19 pm19 cd19 ct19 oc20 kV20 dc20 pm20 cd20 ct20 oc21 kV21 dc21 pm21 cd21 ct21 oc22 kV22 dc22 pm22 cd22 ct22 oc23 kV23 dc23 pm23 cd23 ct23 oc24 kV24 dc24 pm24 cd24 ct24 oc25 kV25 dc25 pm25 cd25 ct25 oc26 kV26 dc26 pm26 cd26 ct26 oc27 kV27 dc27 pm27 cd27 ct27 : Value} {z_ONE_0 : Addr} {n_z_ONE_0 : Nat} {s_z_ONE_0 : Array (Option Value)} {t_ONE_1 : Tok} {t_ONE_2 : Tok} {z_ZERO_0 : Addr} {n_z_ZERO_0 : Nat} {s_z_ZERO_0 : Array (Option Value)} {t_ZERO_1 : Tok} {t_ZERO_2 : Tok}
    (a0 : PySem.W.nsIn K mainGlobals "is_integer" = some (some (.ref f0))) (l0 : K.lookup f0 = some ⟨oc0, od0, .func (PySem.W.fnOf "is_integer" "is_integer" (defArgs s_is_integer) (defBody s_is_integer) (defScope s_is_integer) .none kV0 dc0 pm0 an0 cd0 ct0), sl0⟩) (c0 : PySem.W.codeIn K cd0 "is_integer" = true) (k0 : PySem.W.keepIn K (.ref f0) = true)
    (a1 : PySem.W.nsIn K mainGlobals "is_fraction" = some (some (.ref f1))) (l1 : K.lookup f1 = some ⟨oc1, od1, .func (PySem.W.fnOf "is_fraction" "is_fraction" (defArgs s_is_fraction) (defBody s_is_fraction) (defScope s_is_fraction) .none kV1 dc1 pm1 an1 cd1 ct1), sl1⟩) (c1 : PySem.W.codeIn K cd1 "is_fraction" = true) (k1 : PySem.W.keepIn K (.ref f1) = true)
    (a2 : PySem.W.nsIn K mainGlobals "fraction_of" = some (some (.ref f2))) (l2 : K.lookup f2 = some ⟨oc2, od2, .func (PySem.W.fnOf "fraction_of" "fraction_of" (defArgs s_fraction_of) (defBody s_fraction_of) (defScope s_fraction_of) .none kV2 dc2 pm2 an2 cd2 ct2), sl2⟩) (c2 : PySem.W.codeIn K cd2 "fraction_of" = true) (k2 : PySem.W.keepIn K (.ref f2) = true)
    (a3 : PySem.W.nsIn K mainGlobals "fraction_sum" = some (some (.ref f3))) (l3 : K.lookup f3 = some ⟨oc3, od3, .func (PySem.W.fnOf "fraction_sum" "fraction_sum" (defArgs s_fraction_sum) (defBody s_fraction_sum) (defScope s_fraction_sum) .none kV3 dc3 pm3 an3 cd3 ct3), sl3⟩) (c3 : PySem.W.codeIn K cd3 "fraction_sum" = true) (k3 : PySem.W.keepIn K (.ref f3) = true)
    (a4 : PySem.W.nsIn K mainGlobals "fraction_times" = some (some (.ref f4))) (l4 : K.lookup f4 = some ⟨oc4, od4, .func (PySem.W.fnOf "fraction_times" "fraction_times" (defArgs s_fraction_times) (defBody s_fraction_times) (defScope s_fraction_times) .none kV4 dc4 pm4 an4 cd4 ct4), sl4⟩) (c4 : PySem.W.codeIn K cd4 "fraction_times" = true) (k4 : PySem.W.keepIn K (.ref f4) = true)
    (a5 : PySem.W.nsIn K mainGlobals "is_poly" = some (some (.ref f5))) (l5 : K.lookup f5 = some ⟨oc5, od5, .func (PySem.W.fnOf "is_poly" "is_poly" (defArgs s_is_poly) (defBody s_is_poly) (defScope s_is_poly) .none kV5 dc5 pm5 an5 cd5 ct5), sl5⟩) (c5 : PySem.W.codeIn K cd5 "is_poly" = true) (k5 : PySem.W.keepIn K (.ref f5) = true)
    (a6 : PySem.W.nsIn K mainGlobals "poly_of" = some (some (.ref f6))) (l6 : K.lookup f6 = some ⟨oc6, od6, .func (PySem.W.fnOf "poly_of" "poly_of" (defArgs s_poly_of) (defBody s_poly_of) (defScope s_poly_of) .none kV6 dc6 pm6 an6 cd6 ct6), sl6⟩) (c6 : PySem.W.codeIn K cd6 "poly_of" = true) (k6 : PySem.W.keepIn K (.ref f6) = true)
    (a7 : PySem.W.nsIn K mainGlobals "poly_sum" = some (some (.ref f7))) (l7 : K.lookup f7 = some ⟨oc7, od7, .func (PySem.W.fnOf "poly_sum" "poly_sum" (defArgs s_poly_sum) (defBody s_poly_sum) (defScope s_poly_sum) .none kV7 dc7 pm7 an7 cd7 ct7), sl7⟩) (c7 : PySem.W.codeIn K cd7 "poly_sum" = true) (k7 : PySem.W.keepIn K (.ref f7) = true)
    (a8 : PySem.W.nsIn K mainGlobals "poly_scaled" = some (some (.ref f8))) (l8 : K.lookup f8 = some ⟨oc8, od8, .func (PySem.W.fnOf "poly_scaled" "poly_scaled" (defArgs s_poly_scaled) (defBody s_poly_scaled) (defScope s_poly_scaled) .none kV8 dc8 pm8 an8 cd8 ct8), sl8⟩) (c8 : PySem.W.codeIn K cd8 "poly_scaled" = true) (k8 : PySem.W.keepIn K (.ref f8) = true)
    (a9 : PySem.W.nsIn K mainGlobals "poly_less" = some (some (.ref f9))) (l9 : K.lookup f9 = some ⟨oc9, od9, .func (PySem.W.fnOf "poly_less" "poly_less" (defArgs s_poly_less) (defBody s_poly_less) (defScope s_poly_less) .none kV9 dc9 pm9 an9 cd9 ct9), sl9⟩) (c9 : PySem.W.codeIn K cd9 "poly_less" = true) (k9 : PySem.W.keepIn K (.ref f9) = true)
    (a10 : PySem.W.nsIn K mainGlobals "poly_times" = some (some (.ref f10))) (l10 : K.lookup f10 = some ⟨oc10, od10, .func (PySem.W.fnOf "poly_times" "poly_times" (defArgs s_poly_times) (defBody s_poly_times) (defScope s_poly_times) .none kV10 dc10 pm10 an10 cd10 ct10), sl10⟩) (c10 : PySem.W.codeIn K cd10 "poly_times" = true) (k10 : PySem.W.keepIn K (.ref f10) = true)
    (a11 : PySem.W.nsIn K mainGlobals "whole_power" = some (some (.ref f11))) (l11 : K.lookup f11 = some ⟨oc11, od11, .func (PySem.W.fnOf "whole_power" "whole_power" (defArgs s_whole_power) (defBody s_whole_power) (defScope s_whole_power) .none kV11 dc11 pm11 an11 cd11 ct11), sl11⟩) (c11 : PySem.W.codeIn K cd11 "whole_power" = true) (k11 : PySem.W.keepIn K (.ref f11) = true)
    (a12 : PySem.W.nsIn K mainGlobals "poly_at" = some (some (.ref f12))) (l12 : K.lookup f12 = some ⟨oc12, od12, .func (PySem.W.fnOf "poly_at" "poly_at" (defArgs s_poly_at) (defBody s_poly_at) (defScope s_poly_at) .none kV12 dc12 pm12 an12 cd12 ct12), sl12⟩) (c12 : PySem.W.codeIn K cd12 "poly_at" = true) (k12 : PySem.W.keepIn K (.ref f12) = true)
    (a13 : PySem.W.nsIn K mainGlobals "choose" = some (some (.ref f13))) (l13 : K.lookup f13 = some ⟨oc13, od13, .func (PySem.W.fnOf "choose" "choose" (defArgs s_choose) (defBody s_choose) (defScope s_choose) .none kV13 dc13 pm13 an13 cd13 ct13), sl13⟩) (c13 : PySem.W.codeIn K cd13 "choose" = true) (k13 : PySem.W.keepIn K (.ref f13) = true)
    (a14 : PySem.W.nsIn K mainGlobals "sum_below" = some (some (.ref f14))) (l14 : K.lookup f14 = some ⟨oc14, od14, .func (PySem.W.fnOf "sum_below" "sum_below" (defArgs s_sum_below) (defBody s_sum_below) (defScope s_sum_below) .none kV14 dc14 pm14 an14 cd14 ct14), sl14⟩) (c14 : PySem.W.codeIn K cd14 "sum_below" = true) (k14 : PySem.W.keepIn K (.ref f14) = true)
    (a15 : PySem.W.nsIn K mainGlobals "summed_below" = some (some (.ref f15))) (l15 : K.lookup f15 = some ⟨oc15, od15, .func (PySem.W.fnOf "summed_below" "summed_below" (defArgs s_summed_below) (defBody s_summed_below) (defScope s_summed_below) .none kV15 dc15 pm15 an15 cd15 ct15), sl15⟩) (c15 : PySem.W.codeIn K cd15 "summed_below" = true) (k15 : PySem.W.keepIn K (.ref f15) = true)
    (a16 : PySem.W.nsIn K mainGlobals "power_sum" = some (some (.ref f16))) (l16 : K.lookup f16 = some ⟨oc16, od16, .func (PySem.W.fnOf "power_sum" "power_sum" (defArgs s_power_sum) (defBody s_power_sum) (defScope s_power_sum) .none kV16 dc16 pm16 an16 cd16 ct16), sl16⟩) (c16 : PySem.W.codeIn K cd16 "power_sum" = true) (k16 : PySem.W.keepIn K (.ref f16) = true)
    (a17 : PySem.W.nsIn K mainGlobals "_law_pick" = some (some (.ref f17))) (l17 : K.lookup f17 = some ⟨oc17, od17, .func (PySem.W.fnOf "_law_pick" "_law_pick" (defArgs s_law_pick) (defBody s_law_pick) (defScope s_law_pick) .none kV17 dc17 pm17 an17 cd17 ct17), sl17⟩) (c17 : PySem.W.codeIn K cd17 "_law_pick" = true) (k17 : PySem.W.keepIn K (.ref f17) = true)
    (a18 : PySem.W.nsIn K mainGlobals "_law_of" = some (some (.ref f18))) (l18 : K.lookup f18 = some ⟨oc18, od18, .func (PySem.W.fnOf "_law_of" "_law_of" (defArgs s_law_of) (defBody s_law_of) (defScope s_law_of) .none kV18 dc18 pm18 an18 cd18 ct18), sl18⟩) (c18 : PySem.W.codeIn K cd18 "_law_of" = true) (k18 : PySem.W.keepIn K (.ref f18) = true)
    (a19 : PySem.W.nsIn K mainGlobals "_law_fraction" = some (some (.ref f19))) (l19 : K.lookup f19 = some ⟨oc19, od19, .func (PySem.W.fnOf "_law_fraction" "_law_fraction" (defArgs s_law_fraction) (defBody s_law_fraction) (defScope s_law_fraction) .none kV19 dc19 pm19 an19 cd19 ct19), sl19⟩) (c19 : PySem.W.codeIn K cd19 "_law_fraction" = true) (k19 : PySem.W.keepIn K (.ref f19) = true)
    (a20 : PySem.W.nsIn K mainGlobals "_law_plus" = some (some (.ref f20))) (l20 : K.lookup f20 = some ⟨oc20, od20, .func (PySem.W.fnOf "_law_plus" "_law_plus" (defArgs s_law_plus) (defBody s_law_plus) (defScope s_law_plus) .none kV20 dc20 pm20 an20 cd20 ct20), sl20⟩) (c20 : PySem.W.codeIn K cd20 "_law_plus" = true) (k20 : PySem.W.keepIn K (.ref f20) = true)
    (a21 : PySem.W.nsIn K mainGlobals "_law_by" = some (some (.ref f21))) (l21 : K.lookup f21 = some ⟨oc21, od21, .func (PySem.W.fnOf "_law_by" "_law_by" (defArgs s_law_by) (defBody s_law_by) (defScope s_law_by) .none kV21 dc21 pm21 an21 cd21 ct21), sl21⟩) (c21 : PySem.W.codeIn K cd21 "_law_by" = true) (k21 : PySem.W.keepIn K (.ref f21) = true)
    (a22 : PySem.W.nsIn K mainGlobals "_law_drawn_fraction" = some (some (.ref f22))) (l22 : K.lookup f22 = some ⟨oc22, od22, .func (PySem.W.fnOf "_law_drawn_fraction" "_law_drawn_fraction" (defArgs s_law_drawn_fraction) (defBody s_law_drawn_fraction) (defScope s_law_drawn_fraction) .none kV22 dc22 pm22 an22 cd22 ct22), sl22⟩) (c22 : PySem.W.codeIn K cd22 "_law_drawn_fraction" = true) (k22 : PySem.W.keepIn K (.ref f22) = true)
    (a23 : PySem.W.nsIn K mainGlobals "_law_poly" = some (some (.ref f23))) (l23 : K.lookup f23 = some ⟨oc23, od23, .func (PySem.W.fnOf "_law_poly" "_law_poly" (defArgs s_law_poly) (defBody s_law_poly) (defScope s_law_poly) .none kV23 dc23 pm23 an23 cd23 ct23), sl23⟩) (c23 : PySem.W.codeIn K cd23 "_law_poly" = true) (k23 : PySem.W.keepIn K (.ref f23) = true)
    (a24 : PySem.W.nsIn K mainGlobals "_law_at" = some (some (.ref f24))) (l24 : K.lookup f24 = some ⟨oc24, od24, .func (PySem.W.fnOf "_law_at" "_law_at" (defArgs s_law_at) (defBody s_law_at) (defScope s_law_at) .none kV24 dc24 pm24 an24 cd24 ct24), sl24⟩) (c24 : PySem.W.codeIn K cd24 "_law_at" = true) (k24 : PySem.W.keepIn K (.ref f24) = true)
    (a25 : PySem.W.nsIn K mainGlobals "_law_powers" = some (some (.ref f25))) (l25 : K.lookup f25 = some ⟨oc25, od25, .func (PySem.W.fnOf "_law_powers" "_law_powers" (defArgs s_law_powers) (defBody s_law_powers) (defScope s_law_powers) .none kV25 dc25 pm25 an25 cd25 ct25), sl25⟩) (c25 : PySem.W.codeIn K cd25 "_law_powers" = true) (k25 : PySem.W.keepIn K (.ref f25) = true)
    (a26 : PySem.W.nsIn K mainGlobals "_law_open_cells" = some (some (.ref f26))) (l26 : K.lookup f26 = some ⟨oc26, od26, .func (PySem.W.fnOf "_law_open_cells" "_law_open_cells" (defArgs s_law_open_cells) (defBody s_law_open_cells) (defScope s_law_open_cells) .none kV26 dc26 pm26 an26 cd26 ct26), sl26⟩) (c26 : PySem.W.codeIn K cd26 "_law_open_cells" = true) (k26 : PySem.W.keepIn K (.ref f26) = true)
    (a27 : PySem.W.nsIn K mainGlobals "law" = some (some (.ref f27))) (l27 : K.lookup f27 = some ⟨oc27, od27, .func (PySem.W.fnOf "law" "law" (defArgs s_law) (defBody s_law) (defScope s_law) .none kV27 dc27 pm27 an27 cd27 ct27), sl27⟩) (c27 : PySem.W.codeIn K cd27 "law" = true) (k27 : PySem.W.keepIn K (.ref f27) = true)
    (n_abs : PySem.W.nsIn K mainGlobals "abs" = some none)
    (n_all : PySem.W.nsIn K mainGlobals "all" = some none)
    (n_bool : PySem.W.nsIn K mainGlobals "bool" = some none)
    (n_enumerate : PySem.W.nsIn K mainGlobals "enumerate" = some none)
    (n_int : PySem.W.nsIn K mainGlobals "int" = some none)
    (n_isinstance : PySem.W.nsIn K mainGlobals "isinstance" = some none)
    (n_len : PySem.W.nsIn K mainGlobals "len" = some none)
    (n_list : PySem.W.nsIn K mainGlobals "list" = some none)
    (n_max : PySem.W.nsIn K mainGlobals "max" = some none)
    (n_range : PySem.W.nsIn K mainGlobals "range" = some none)
    (n_repr : PySem.W.nsIn K mainGlobals "repr" = some none)
    (n_sorted : PySem.W.nsIn K mainGlobals "sorted" = some none)
    (n_sum : PySem.W.nsIn K mainGlobals "sum" = some none)
    (n_tuple : PySem.W.nsIn K mainGlobals "tuple" = some none)
    (n_zip : PySem.W.nsIn K mainGlobals "zip" = some none)
    (i_gcd : PySem.W.nsIn K mainGlobals "gcd" = some (some (.builtin "math.gcd")))
    (w_ONE : PySem.W.nsIn K mainGlobals "ONE" = some (some (.ref z_ONE_0)))
    (l_z_ONE_0 : K.lookup z_ONE_0 = some ⟨.type "tuple", none, .seq #[.int 1 t_ONE_1, .int 1 t_ONE_2] n_z_ONE_0, s_z_ONE_0⟩)
    (w_ZERO : PySem.W.nsIn K mainGlobals "ZERO" = some (some (.ref z_ZERO_0)))
    (l_z_ZERO_0 : K.lookup z_ZERO_0 = some ⟨.type "tuple", none, .seq #[.int 0 t_ZERO_1, .int 1 t_ZERO_2] n_z_ZERO_0, s_z_ZERO_0⟩) :
    ∃ fd : FuncData, (∀ (s : Shared) (v : Value), BindsTo s fd ⟨[v], []⟩ [("script", v)]) ∧ ∀ base : Heap, K.In base → base.Ns mainGlobals mg → FnG l.prog w K mg base 9 fa fd ["script"] (spLaw K) := by
  have e := hfa.symm.trans (PySem.W.mg_of X G a27)
  cases e
  have T : Txt K mg := ⟨PySem.W.mg_none_of X G n_abs, PySem.W.mg_none_of X G n_all, PySem.W.mg_none_of X G n_bool, PySem.W.mg_none_of X G n_enumerate, PySem.W.mg_none_of X G n_int, PySem.W.mg_none_of X G n_isinstance, PySem.W.mg_none_of X G n_len, PySem.W.mg_none_of X G n_list, PySem.W.mg_none_of X G n_max, PySem.W.mg_none_of X G n_range, PySem.W.mg_none_of X G n_repr, PySem.W.mg_none_of X G n_sorted, PySem.W.mg_none_of X G n_sum, PySem.W.mg_none_of X G n_tuple, PySem.W.mg_none_of X G n_zip, PySem.W.mg_of X G i_gcd, ⟨_, PySem.W.mg_of X G w_ONE, .ref z_ONE_0, rfl, fun F => .tup (tpK_mk l_z_ONE_0 (by show (2 : Nat) ≤ 1000; decide) (vals_int (vals_int (.nil)))) (.cons (.int 1) (.cons (.int 1) (.nil)))⟩, ⟨_, PySem.W.mg_of X G w_ZERO, .ref z_ZERO_0, rfl, fun F => .tup (tpK_mk l_z_ZERO_0 (by show (2 : Nat) ≤ 1000; decide) (vals_int (vals_int (.nil)))) (.cons (.int 0) (.cons (.int 1) (.nil)))⟩⟩
  have F0 := fun_mk (st := s_is_integer) l0 c0 k0
  have b0 := F0.binds (ps := ["value"]) fun _ _ _ _ _ _ us hl => match us, hl with | [_], _ => rfl
  have F1 := fun_mk (st := s_is_fraction) l1 c1 k1
  have b1 := F1.binds (ps := ["value"]) fun _ _ _ _ _ _ us hl => match us, hl with | [_], _ => rfl
  have F2 := fun_mk (st := s_fraction_of) l2 c2 k2
  have b2 := F2.binds (ps := ["p", "q"]) fun _ _ _ _ _ _ us hl => match us, hl with | [_, _], _ => rfl
  have F3 := fun_mk (st := s_fraction_sum) l3 c3 k3
  have b3 := F3.binds (ps := ["a", "b"]) fun _ _ _ _ _ _ us hl => match us, hl with | [_, _], _ => rfl
  have F4 := fun_mk (st := s_fraction_times) l4 c4 k4
  have b4 := F4.binds (ps := ["a", "b"]) fun _ _ _ _ _ _ us hl => match us, hl with | [_, _], _ => rfl
  have F5 := fun_mk (st := s_is_poly) l5 c5 k5
  have b5 := F5.binds (ps := ["value"]) fun _ _ _ _ _ _ us hl => match us, hl with | [_], _ => rfl
  have F6 := fun_mk (st := s_poly_of) l6 c6 k6
  have b6 := F6.binds (ps := ["pairs"]) fun _ _ _ _ _ _ us hl => match us, hl with | [_], _ => rfl
  have F7 := fun_mk (st := s_poly_sum) l7 c7 k7
  have b7 := F7.binds (ps := ["a", "b"]) fun _ _ _ _ _ _ us hl => match us, hl with | [_, _], _ => rfl
  have F8 := fun_mk (st := s_poly_scaled) l8 c8 k8
  have b8 := F8.binds (ps := ["c", "a"]) fun _ _ _ _ _ _ us hl => match us, hl with | [_, _], _ => rfl
  have F9 := fun_mk (st := s_poly_less) l9 c9 k9
  have b9 := F9.binds (ps := ["a", "b"]) fun _ _ _ _ _ _ us hl => match us, hl with | [_, _], _ => rfl
  have F10 := fun_mk (st := s_poly_times) l10 c10 k10
  have b10 := F10.binds (ps := ["a", "b"]) fun _ _ _ _ _ _ us hl => match us, hl with | [_, _], _ => rfl
  have F11 := fun_mk (st := s_whole_power) l11 c11 k11
  have b11 := F11.binds (ps := ["s", "n"]) fun _ _ _ _ _ _ us hl => match us, hl with | [_, _], _ => rfl
  have F12 := fun_mk (st := s_poly_at) l12 c12 k12
  have b12 := F12.binds (ps := ["poly", "s"]) fun _ _ _ _ _ _ us hl => match us, hl with | [_, _], _ => rfl
  have F13 := fun_mk (st := s_choose) l13 c13 k13
  have b13 := F13.binds (ps := ["n", "k"]) fun _ _ _ _ _ _ us hl => match us, hl with | [_, _], _ => rfl
  have F14 := fun_mk (st := s_sum_below) l14 c14 k14
  have b14 := F14.binds (ps := ["e"]) fun _ _ _ _ _ _ us hl => match us, hl with | [_], _ => rfl
  have F15 := fun_mk (st := s_summed_below) l15 c15 k15
  have b15 := F15.binds (ps := ["poly"]) fun _ _ _ _ _ _ us hl => match us, hl with | [_], _ => rfl
  have F16 := fun_mk (st := s_power_sum) l16 c16 k16
  have b16 := F16.binds (ps := ["exponents"]) fun _ _ _ _ _ _ us hl => match us, hl with | [_], _ => rfl
  have F17 := fun_mk (st := s_law_pick) l17 c17 k17
  have b17 := F17.binds (ps := ["source", "most"]) fun _ _ _ _ _ _ us hl => match us, hl with | [_, _], _ => rfl
  have F18 := fun_mk (st := s_law_of) l18 c18 k18
  have b18 := F18.binds (ps := ["source", "some"]) fun _ _ _ _ _ _ us hl => match us, hl with | [_, _], _ => rfl
  have F19 := fun_mk (st := s_law_fraction) l19 c19 k19
  have b19 := F19.binds (ps := ["p", "q"]) fun _ _ _ _ _ _ us hl => match us, hl with | [_, _], _ => rfl
  have F20 := fun_mk (st := s_law_plus) l20 c20 k20
  have b20 := F20.binds (ps := ["a", "b"]) fun _ _ _ _ _ _ us hl => match us, hl with | [_, _], _ => rfl
  have F21 := fun_mk (st := s_law_by) l21 c21 k21
  have b21 := F21.binds (ps := ["a", "b"]) fun _ _ _ _ _ _ us hl => match us, hl with | [_, _], _ => rfl
  have F22 := fun_mk (st := s_law_drawn_fraction) l22 c22 k22
  have b22 := F22.binds (ps := ["source"]) fun _ _ _ _ _ _ us hl => match us, hl with | [_], _ => rfl
  have F23 := fun_mk (st := s_law_poly) l23 c23 k23
  have b23 := F23.binds (ps := ["source", "many"]) fun _ _ _ _ _ _ us hl => match us, hl with | [_, _], _ => rfl
  have F24 := fun_mk (st := s_law_at) l24 c24 k24
  have b24 := F24.binds (ps := ["poly", "s"]) fun _ _ _ _ _ _ us hl => match us, hl with | [_, _], _ => rfl
  have F25 := fun_mk (st := s_law_powers) l25 c25 k25
  have b25 := F25.binds (ps := ["exponents", "s"]) fun _ _ _ _ _ _ us hl => match us, hl with | [_, _], _ => rfl
  have F26 := fun_mk (st := s_law_open_cells) l26 c26 k26
  have b26 := F26.binds (ps := ["script"]) fun _ _ _ _ _ _ us hl => match us, hl with | [_], _ => rfl
  have F27 := fun_mk (st := s_law) l27 c27 k27
  refine ⟨PySem.W.fnOf "law" "law" (defArgs s_law) (defBody s_law) (defScope s_law) .none kV27 dc27 pm27 an27 cd27 ct27, fun s v => .of_eq rfl, fun base _ _ => ?_⟩
  · show FnG l.prog w K mg base 9 fa (PySem.W.fnOf "law" "law" (defArgs s_law) (defBody s_law) (defScope s_law) .none kV27 dc27 pm27 an27 cd27 ct27) ["script"] (spLaw K)
    have D0 : Def l.prog w K mg base 1 "is_integer" ["value"] false mf_is_integer := ⟨f0, _, w_is_integer (k := 0) F0 T , PySem.W.mg_of X G a0, k0, b0⟩
    have D1 : Def l.prog w K mg base 2 "is_fraction" ["value"] false mf_is_fraction := ⟨f1, _, w_is_fraction (k := 1) F1 T (D0.mono (by decide)), PySem.W.mg_of X G a1, k1, b1⟩
    have D2 : Def l.prog w K mg base 1 "fraction_of" ["p", "q"] false mf_fraction_of := ⟨f2, _, w_fraction_of (k := 0) F2 T , PySem.W.mg_of X G a2, k2, b2⟩
    have D3 : Def l.prog w K mg base 2 "fraction_sum" ["a", "b"] false mf_fraction_sum := ⟨f3, _, w_fraction_sum (k := 1) F3 T (D2.mono (by decide)), PySem.W.mg_of X G a3, k3, b3⟩
    have D4 : Def l.prog w K mg base 2 "fraction_times" ["a", "b"] false mf_fraction_times := ⟨f4, _, w_fraction_times (k := 1) F4 T (D2.mono (by decide)), PySem.W.mg_of X G a4, k4, b4⟩
    have D5 : Def l.prog w K mg base 3 "is_poly" ["value"] false mf_is_poly := ⟨f5, _, w_is_poly (k := 2) F5 T (D1.mono (by decide)) (D0.mono (by decide)), PySem.W.mg_of X G a5, k5, b5⟩
    have D6 : Def l.prog w K mg base 3 "poly_of" ["pairs"] false mf_poly_of := ⟨f6, _, w_poly_of (k := 2) F6 T (D3.mono (by decide)), PySem.W.mg_of X G a6, k6, b6⟩
    have D7 : Def l.prog w K mg base 4 "poly_sum" ["a", "b"] false mf_poly_sum := ⟨f7, _, w_poly_sum (k := 3) F7 T (D6.mono (by decide)), PySem.W.mg_of X G a7, k7, b7⟩
    have D8 : Def l.prog w K mg base 4 "poly_scaled" ["c", "a"] false mf_poly_scaled := ⟨f8, _, w_poly_scaled (k := 3) F8 T (D6.mono (by decide)) (D4.mono (by decide)), PySem.W.mg_of X G a8, k8, b8⟩
    have D9 : Def l.prog w K mg base 5 "poly_less" ["a", "b"] false mf_poly_less := ⟨f9, _, w_poly_less (k := 4) F9 T (D7.mono (by decide)) (D8.mono (by decide)), PySem.W.mg_of X G a9, k9, b9⟩
    have D10 : Def l.prog w K mg base 4 "poly_times" ["a", "b"] false mf_poly_times := ⟨f10, _, w_poly_times (k := 3) F10 T (D4.mono (by decide)) (D6.mono (by decide)), PySem.W.mg_of X G a10, k10, b10⟩
    have D11 : Def l.prog w K mg base 1 "whole_power" ["s", "n"] false mf_whole_power := ⟨f11, _, w_whole_power (k := 0) F11 T , PySem.W.mg_of X G a11, k11, b11⟩
    have D12 : Def l.prog w K mg base 3 "poly_at" ["poly", "s"] false mf_poly_at := ⟨f12, _, w_poly_at (k := 2) F12 T (D11.mono (by decide)) (D3.mono (by decide)) (D4.mono (by decide)), PySem.W.mg_of X G a12, k12, b12⟩
    have D13 : Def l.prog w K mg base 1 "choose" ["n", "k"] false mf_choose := ⟨f13, _, w_choose (k := 0) F13 T , PySem.W.mg_of X G a13, k13, b13⟩
    have D14 : Def l.prog w K mg base 6 "sum_below" ["e"] false mf_sum_below := ⟨f14, _, w_sum_below (k := 5) F14 T (D9.mono (by decide)) (D8.mono (by decide)) (D13.mono (by decide)) (D2.mono (by decide)), PySem.W.mg_of X G a14, k14, b14⟩
    have D15 : Def l.prog w K mg base 7 "summed_below" ["poly"] false mf_summed_below := ⟨f15, _, w_summed_below (k := 6) F15 T (D7.mono (by decide)) (D8.mono (by decide)) (D14.mono (by decide)), PySem.W.mg_of X G a15, k15, b15⟩
    have D16 : Def l.prog w K mg base 8 "power_sum" ["exponents"] false mf_power_sum := ⟨f16, _, w_power_sum (k := 7) F16 T (D10.mono (by decide)) (D15.mono (by decide)) (D7.mono (by decide)), PySem.W.mg_of X G a16, k16, b16⟩
    have D17 : Def l.prog w K mg base 1 "_law_pick" ["source", "most"] true mf_law_pick := ⟨f17, _, w_law_pick (k := 0) F17 T , PySem.W.mg_of X G a17, k17, b17⟩
    have D18 : Def l.prog w K mg base 2 "_law_of" ["source", "some"] true mf_law_of := ⟨f18, _, w_law_of (k := 1) F18 T (D17.mono (by decide)), PySem.W.mg_of X G a18, k18, b18⟩
    have D19 : Def l.prog w K mg base 1 "_law_fraction" ["p", "q"] false mf_law_fraction := ⟨f19, _, w_law_fraction (k := 0) F19 T , PySem.W.mg_of X G a19, k19, b19⟩
    have D20 : Def l.prog w K mg base 2 "_law_plus" ["a", "b"] false mf_law_plus := ⟨f20, _, w_law_plus (k := 1) F20 T (D19.mono (by decide)), PySem.W.mg_of X G a20, k20, b20⟩
    have D21 : Def l.prog w K mg base 2 "_law_by" ["a", "b"] false mf_law_by := ⟨f21, _, w_law_by (k := 1) F21 T (D19.mono (by decide)), PySem.W.mg_of X G a21, k21, b21⟩
    have D22 : Def l.prog w K mg base 3 "_law_drawn_fraction" ["source"] true mf_law_drawn_fraction := ⟨f22, _, w_law_drawn_fraction (k := 2) F22 T (D19.mono (by decide)) (D18.mono (by decide)), PySem.W.mg_of X G a22, k22, b22⟩
    have D23 : Def l.prog w K mg base 4 "_law_poly" ["source", "many"] true mf_law_poly := ⟨f23, _, w_law_poly (k := 3) F23 T (D17.mono (by decide)) (D22.mono (by decide)), PySem.W.mg_of X G a23, k23, b23⟩
    have D24 : Def l.prog w K mg base 3 "_law_at" ["poly", "s"] false mf_law_at := ⟨f24, _, w_law_at (k := 2) F24 T (D21.mono (by decide)) (D20.mono (by decide)), PySem.W.mg_of X G a24, k24, b24⟩
    have D25 : Def l.prog w K mg base 1 "_law_powers" ["exponents", "s"] false mf_law_powers := ⟨f25, _, w_law_powers (k := 0) F25 T , PySem.W.mg_of X G a25, k25, b25⟩
    exact w_law (k := 8) F27 T (w_law_open_cells (k := 7) F26 (PySem.W.mg_none_of X G n_int) (PySem.W.mg_none_of X G n_abs)) (PySem.W.mg_of X G a26) k26 b26 (D17.mono (by decide)) (D14.mono (by decide)) (D12.mono (by decide)) (D5.mono (by decide)) (D23.mono (by decide)) (D15.mono (by decide)) (D20.mono (by decide)) (D24.mono (by decide)) (D16.mono (by decide)) (D25.mono (by decide)) (D7.mono (by decide)) hm
end K30
end

section
set_option Elab.async false
set_option linter.all false
open PySem PySem.W PyProof.Rows
set_option maxRecDepth 100000 in
set_option maxHeartbeats 0 in
theorem PySem.Challenge.cw_dicevalues_k30_sums_of_powers_holds : PySem.Challenge.rw_dicevalues_k30_sums_of_powers.Holds := by
  w_on; o_law; k_head; (case hw => w_witness2)
  k_fill
  refine DL.walk_ofG (l := PySem.Challenge.rw_dicevalues_k30_sums_of_powers) (k := 9) rfl rfl ⟨rfl, by decide, by decide⟩ (fun w h Y => PySem.W.kIn_of Y) ?F
  case F =>
    intro w mg fa h KX G hmg
    refine' K30.all_mk KX G hmg K30.law_ok ?a0 ?l0 ?c0 ?k0 ?a1 ?l1 ?c1 ?k1 ?a2 ?l2 ?c2 ?k2 ?a3 ?l3 ?c3 ?k3 ?a4 ?l4 ?c4 ?k4 ?a5 ?l5 ?c5 ?k5 ?a6 ?l6 ?c6 ?k6 ?a7 ?l7 ?c7 ?k7 ?a8 ?l8 ?c8 ?k8 ?a9 ?l9 ?c9 ?k9 ?a10 ?l10 ?c10 ?k10 ?a11 ?l11 ?c11 ?k11 ?a12 ?l12 ?c12 ?k12 ?a13 ?l13 ?c13 ?k13 ?a14 ?l14 ?c14 ?k14 ?a15 ?l15 ?c15 ?k15 ?a16 ?l16 ?c16 ?k16 ?a17 ?l17 ?c17 ?k17 ?a18 ?l18 ?c18 ?k18 ?a19 ?l19 ?c19 ?k19 ?a20 ?l20 ?c20 ?k20 ?a21 ?l21 ?c21 ?k21 ?a22 ?l22 ?c22 ?k22 ?a23 ?l23 ?c23 ?k23 ?a24 ?l24 ?c24 ?k24 ?a25 ?l25 ?c25 ?k25 ?a26 ?l26 ?c26 ?k26 ?a27 ?l27 ?c27 ?k27 ?n_abs ?n_all ?n_bool ?n_enumerate ?n_int ?n_isinstance ?n_len ?n_list ?n_max ?n_range ?n_repr ?n_sorted ?n_sum ?n_tuple ?n_zip ?i_gcd ?w_ONE ?l_z_ONE_0 ?w_ZERO ?l_z_ZERO_0
    (case a0 => k_is)
    (case l0 => k_is)
    (case c0 => k_is)
    (case k0 => k_is)
    (case a1 => k_is)
    (case l1 => k_is)
    (case c1 => k_is)
    (case k1 => k_is)
    (case a2 => k_is)
    (case l2 => k_is)
    (case c2 => k_is)
    (case k2 => k_is)
    (case a3 => k_is)
    (case l3 => k_is)
    (case c3 => k_is)
    (case k3 => k_is)
    (case a4 => k_is)
    (case l4 => k_is)
    (case c4 => k_is)
    (case k4 => k_is)
    (case a5 => k_is)
    (case l5 => k_is)
    (case c5 => k_is)
    (case k5 => k_is)
    (case a6 => k_is)
    (case l6 => k_is)
    (case c6 => k_is)
    (case k6 => k_is)
    (case a7 => k_is)
    (case l7 => k_is)
    (case c7 => k_is)
    (case k7 => k_is)
    (case a8 => k_is)
    (case l8 => k_is)
    (case c8 => k_is)
    (case k8 => k_is)
    (case a9 => k_is)
    (case l9 => k_is)
    (case c9 => k_is)
    (case k9 => k_is)
    (case a10 => k_is)
    (case l10 => k_is)
    (case c10 => k_is)
    (case k10 => k_is)
    (case a11 => k_is)
    (case l11 => k_is)
    (case c11 => k_is)
    (case k11 => k_is)
    (case a12 => k_is)
    (case l12 => k_is)
    (case c12 => k_is)
    (case k12 => k_is)
    (case a13 => k_is)
    (case l13 => k_is)
    (case c13 => k_is)
    (case k13 => k_is)
    (case a14 => k_is)
    (case l14 => k_is)
    (case c14 => k_is)
    (case k14 => k_is)
    (case a15 => k_is)
    (case l15 => k_is)
    (case c15 => k_is)
    (case k15 => k_is)
    (case a16 => k_is)
    (case l16 => k_is)
    (case c16 => k_is)
    (case k16 => k_is)
    (case a17 => k_is)
    (case l17 => k_is)
    (case c17 => k_is)
    (case k17 => k_is)
    (case a18 => k_is)
    (case l18 => k_is)
    (case c18 => k_is)
    (case k18 => k_is)
    (case a19 => k_is)
    (case l19 => k_is)
    (case c19 => k_is)
    (case k19 => k_is)
    (case a20 => k_is)
    (case l20 => k_is)
    (case c20 => k_is)
    (case k20 => k_is)
    (case a21 => k_is)
    (case l21 => k_is)
    (case c21 => k_is)
    (case k21 => k_is)
    (case a22 => k_is)
    (case l22 => k_is)
    (case c22 => k_is)
    (case k22 => k_is)
    (case a23 => k_is)
    (case l23 => k_is)
    (case c23 => k_is)
    (case k23 => k_is)
    (case a24 => k_is)
    (case l24 => k_is)
    (case c24 => k_is)
    (case k24 => k_is)
    (case a25 => k_is)
    (case l25 => k_is)
    (case c25 => k_is)
    (case k25 => k_is)
    (case a26 => k_is)
    (case l26 => k_is)
    (case c26 => k_is)
    (case k26 => k_is)
    (case a27 => k_is)
    (case l27 => k_is)
    (case c27 => k_is)
    (case k27 => k_is)
    (case n_abs => k_is)
    (case n_all => k_is)
    (case n_bool => k_is)
    (case n_enumerate => k_is)
    (case n_int => k_is)
    (case n_isinstance => k_is)
    (case n_len => k_is)
    (case n_list => k_is)
    (case n_max => k_is)
    (case n_range => k_is)
    (case n_repr => k_is)
    (case n_sorted => k_is)
    (case n_sum => k_is)
    (case n_tuple => k_is)
    (case n_zip => k_is)
    (case i_gcd => k_is)
    (case w_ONE => k_is)
    (case l_z_ONE_0 => k_is)
    (case w_ZERO => k_is)
    (case l_z_ZERO_0 => k_is)
end
