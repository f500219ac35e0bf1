import PyProof.Rows.All
import Wide.All
import OpenK.AllK
import Wide.FinOn
import HandS.ForMost
import HandS.IsInst
import HandS.Gcd
import HandS.Flow
import HandS.SortInts
import HandS.Style
import HandS.TupAny
import HandS.Wide
import HandS.Zip
import KE.DataEq
import HandS.TupMul
import KE.KDictPairs
import HandS.More
import HandS.EndBits
import PySem.Challenge.RW_dicevalues_k32_polynomials_judged
section
set_option Elab.async false
set_option linter.all false
set_option maxRecDepth 100000
set_option maxHeartbeats 4000000
/-! DL1: data in an abstract heap; the state of a frame; judgements by mirrors. -/
namespace DL
open PySem L2

/-! ### data -/
def keyD : Key → PyData
  | .inl i => .int i
  | .inr x => .str x
/-- a tuple without a dict of its own, that stays -/
def TpK (K : PySem.W.Frag) (F : Hp) (a : Addr) (xs : List V) : Prop :=
  (∃ o, F a = some (.frz o (.tup xs)) ∧ o.dict = none) ∨
    ∃ (o : Obj) (its : Array Value) (n : Nat), K.lookup a = some o ∧ o.cls = .type "tuple" ∧ o.dict = none ∧ o.data = .seq its n ∧ its.size ≤ sizeLine ∧ Vals xs its.toList
theorem TpK.mono {K : PySem.W.Frag} {F F' : Hp} {a : Addr} {xs : List V} (e : Same F F') (h : TpK K F a xs) : TpK K F' a xs := by
  rcases h with ⟨o, h, n⟩ | h
  · exact .inl ⟨o, e _ _ h, n⟩
  · exact .inr h
theorem TpK.sq {K : PySem.W.Frag} {F : Hp} {a : Addr} {xs : List V} (h : TpK K F a xs) : SqT K F a xs := by
  rcases h with ⟨o, h, n⟩ | ⟨o, its, n, h1, h2, h3, h4, h5, h6⟩
  · exact .inl (.inr ⟨o, h⟩)
  · exact .inr ⟨o, its, n, h1, h2, h4, h5, h6⟩
mutual
/-- v holds the data d in what is frozen -/
inductive Rp (K : PySem.W.Frag) (F : Hp) : V → PyData → Prop
  | non : Rp K F .non .none
  | bl (b : Bool) : Rp K F (.bl b) (.bool b)
  | int (i : Int) : Rp K F (.int i) (.int i)
  | str (x : Str) : Rp K F (.str x) (.str x)
  | lst {a : Addr} {xs : List V} {ds : List PyData} : F a = some (.lst xs) → RpA K F xs ds → Rp K F (.ref a) (.list ds)
  | tup {a : Addr} {xs : List V} {ds : List PyData} : TpK K F a xs → RpA K F xs ds → Rp K F (.ref a) (.tuple ds)
  | dic {a : Addr} {o : Obj} {ks : List (Key × V)} {kvs : List (PyData × PyData)} : F a = some (.frz o (.dK ks)) → RpK K F ks kvs → Rp K F (.ref a) (.dict kvs)
inductive RpA (K : PySem.W.Frag) (F : Hp) : List V → List PyData → Prop
  | nil : RpA K F [] []
  | cons {v : V} {vs : List V} {d : PyData} {ds : List PyData} : Rp K F v d → RpA K F vs ds → RpA K F (v :: vs) (d :: ds)
inductive RpK (K : PySem.W.Frag) (F : Hp) : List (Key × V) → List (PyData × PyData) → Prop
  | nil : RpK K F [] []
  | cons {k : Key} {v : V} {ks : List (Key × V)} {d : PyData} {kvs : List (PyData × PyData)} : Rp K F v d → RpK K F ks kvs → RpK K F ((k, v) :: ks) ((keyD k, d) :: kvs)
end

theorem Same.sqT {K : PySem.W.Frag} {F F' : Hp} {a : Addr} {xs : List V} (e : Same F F') (h : SqT K F a xs) : SqT K F' a xs := by
  rcases h with (h | ⟨o, h⟩) | h
  · exact .inl (.inl (e _ _ h))
  · exact .inl (.inr ⟨o, e _ _ h⟩)
  · exact .inr h

section
variable {K : PySem.W.Frag} {F F' : Hp}
mutual
theorem Rp.mono (s : Same F F') : ∀ (d : PyData) (v : V), Rp K F v d → Rp K F' v d
  | .none, _, h => by cases h; exact .non
  | .bool b, _, h => by cases h; exact .bl b
  | .int i, _, h => by cases h; exact .int i
  | .str x, _, h => by cases h; exact .str x
  | .list ds, _, h => by
    cases h with
    | lst h1 h2 => exact .lst (s _ _ h1) (RpA.mono s ds _ h2)
  | .tuple ds, _, h => by
    cases h with
    | tup h1 h2 => exact .tup (TpK.mono s h1) (RpA.mono s ds _ h2)
  | .dict kvs, _, h => by
    cases h with
    | dic h1 h2 => exact .dic (s _ _ h1) (RpK.mono s kvs _ h2)
theorem RpA.mono (s : Same F F') : ∀ (ds : List PyData) (vs : List V), RpA K F vs ds → RpA K F' vs ds
  | [], _, h => by cases h; exact .nil
  | d :: ds, _, h => by
    cases h with
    | cons h1 h2 => exact .cons (Rp.mono s d _ h1) (RpA.mono s ds _ h2)
theorem RpK.mono (s : Same F F') : ∀ (kvs : List (PyData × PyData)) (ks : List (Key × V)), RpK K F ks kvs → RpK K F' ks kvs
  | [], _, h => by cases h; exact .nil
  | (k, d) :: kvs, _, h => by
    cases h with
    | cons h1 h2 => exact .cons (Rp.mono s d _ h1) (RpK.mono s kvs _ h2)
end

theorem RpA.length : ∀ {vs : List V} {ds : List PyData}, RpA K F vs ds → vs.length = ds.length
  | _, [], .nil => rfl
  | _, _ :: ds, .cons _ h => by rw [List.length_cons, List.length_cons, RpA.length h]
theorem RpA.get : ∀ {vs : List V} {ds : List PyData} {i : Nat} {d : PyData}, RpA K F vs ds → ds[i]? = some d → ∃ v, vs[i]? = some v ∧ Rp K F v d
  | _, [], i, d, _, e => by simp at e
  | _, x :: ds, 0, d, .cons r _, e => ⟨_, rfl, by rw [← Option.some.inj (show some x = some d from e)]; exact r⟩
  | _, _ :: ds, i + 1, d, .cons _ h, e => by
    obtain ⟨v, e1, e2⟩ := RpA.get (i := i) (d := d) h (by simpa using e)
    exact ⟨v, by simpa using e1, e2⟩
theorem RpA.at_ {vs : List V} {ds : List PyData} {i : Nat} {v : V} (h : RpA K F vs ds) (e : vs[i]? = some v) : ∃ d, ds[i]? = some d ∧ Rp K F v d := by
  have hl := h.length
  have hi : i < ds.length := by rw [← hl]; exact (List.getElem?_eq_some_iff.mp e).1
  obtain ⟨w, e1, e2⟩ := h.get (List.getElem?_eq_getElem hi)
  rw [e] at e1
  cases e1
  exact ⟨_, List.getElem?_eq_getElem hi, e2⟩
theorem RpA.append : ∀ {vs ws : List V} {ds es : List PyData}, RpA K F vs ds → RpA K F ws es → RpA K F (vs ++ ws) (ds ++ es)
  | _, _, [], _, .nil, h => h
  | _, _, _ :: ds, _, .cons r t, h => .cons r (RpA.append t h)
theorem RpA.take : ∀ {vs : List V} {ds : List PyData} (n : Nat), RpA K F vs ds → RpA K F (vs.take n) (ds.take n)
  | _, _, 0, _ => by simp only [List.take_zero]; exact .nil
  | _, [], n + 1, .nil => .nil
  | _, _ :: ds, n + 1, .cons r t => .cons r (RpA.take n t)
theorem RpA.drop : ∀ {vs : List V} {ds : List PyData} (n : Nat), RpA K F vs ds → RpA K F (vs.drop n) (ds.drop n)
  | _, _, 0, h => h
  | _, [], n + 1, .nil => .nil
  | _, _ :: ds, n + 1, .cons _ t => RpA.drop n t
theorem RpA.reverse : ∀ {vs : List V} {ds : List PyData}, RpA K F vs ds → RpA K F vs.reverse ds.reverse
  | _, [], .nil => .nil
  | _, _ :: ds, .cons r t => by
    rw [List.reverse_cons, List.reverse_cons]
    exact RpA.append (RpA.reverse t) (.cons r .nil)
theorem RpA.set {v : V} {d : PyData} (r : Rp K F v d) : ∀ {vs : List V} {ds : List PyData} (i : Nat), RpA K F vs ds → RpA K F (vs.set i v) (ds.set i d)
  | _, [], _, .nil => .nil
  | _, _ :: ds, 0, .cons _ t => .cons r t
  | _, _ :: ds, i + 1, .cons q t => .cons q (RpA.set r i t)
theorem RpA.ints : ∀ (ns : List Int), RpA K F (ns.map V.int) (ns.map PyData.int)
  | [] => .nil
  | n :: ns => .cons (.int n) (RpA.ints ns)
theorem RpA.of_ints : ∀ {vs : List V} {ns : List Int}, RpA K F vs (ns.map PyData.int) → vs = ns.map V.int
  | _, [], h => by cases h; rfl
  | _, n :: ns, h => by
    cases h with
    | cons r t => cases r; rw [RpA.of_ints t]; rfl
theorem RpA.of_bools : ∀ {vs : List V} {ns : List Bool}, RpA K F vs (ns.map PyData.bool) → vs = ns.map V.bl
  | _, [], h => by cases h; rfl
  | _, n :: ns, h => by
    cases h with
    | cons r t => cases r; rw [RpA.of_bools t]; rfl
end

/-! ### the pick source; what stands -/
structure Gh where
  a : Addr
  l : Addr
structure Pk where
  cells : List Int
  left : Int
  mixed : Int
  turn : Int
structure Pk.ok (st : Pk) : Prop where
  cells : ∀ c ∈ st.cells, 0 ≤ c
  len : st.cells.length ≤ 63
  left : 0 ≤ st.left
def srcKv (g : Gh) (st : Pk) : List (Key × V) := [(.inr "cells", .ref g.l), (.inr "left", .int st.left), (.inr "mixed", .int st.mixed), (.inr "turn", .int st.turn)]

/-- from the one heap to the other: what is frozen stays, what is newly frozen is new, all stays but the source -/
structure Stp (g : Gh) (H F H' F' : Hp) : Prop where
  fr : Same F F'
  nw : ∀ b o, F' b = some o → F b = some o ∨ H b = none
  kp : ∀ b o, H b = some o → b ≠ g.a → b ≠ g.l → H' b = some o
  gr : ∀ b, H' b = none → H b = none
theorem Stp.refl (g : Gh) (H F : Hp) : Stp g H F H F := ⟨fun _ _ h => h, fun _ _ h => .inl h, fun _ _ h _ _ => h, fun _ h => h⟩
theorem Stp.trans {g : Gh} {H F H1 F1 H2 F2 : Hp} (a : Stp g H F H1 F1) (b : Stp g H1 F1 H2 F2) : Stp g H F H2 F2 where
  fr := a.fr.trans b.fr
  nw := fun c o h => by
    rcases b.nw c o h with h | h
    · exact a.nw c o h
    · exact .inr (a.gr c h)
  kp := fun c o h n1 n2 => b.kp c o (a.kp c o h n1 n2) n1 n2
  gr := fun c h => a.gr c (b.gr c h)

/-- a new frozen object; a new one that is not frozen -/
theorem Stp.newF {g : Gh} {H F : Hp} {p : Addr} {o : HO} (hp : H p = none) (sub : Same F H) : Stp g H F (upd H p o) (upd F p o) where
  fr := fun b u h => by rw [upd_ne (ne_of_none (sub _ _ h) hp)]; exact h
  nw := fun b u h => by
    by_cases e : b = p
    · subst e; exact .inr hp
    · rw [upd_ne e] at h; exact .inl h
  kp := fun b u h _ _ => by rw [upd_ne (ne_of_none h hp)]; exact h
  gr := fun b h => by
    by_cases e : b = p
    · subst e; exact hp
    · rw [upd_ne e] at h; exact h
theorem Stp.newH {g : Gh} {H F : Hp} {p : Addr} {o : HO} (hp : H p = none) : Stp g H F (upd H p o) F where
  fr := fun b u h => h
  nw := fun b u h => .inl h
  kp := fun b u h _ _ => by rw [upd_ne (ne_of_none h hp)]; exact h
  gr := fun b h => by
    by_cases e : b = p
    · subst e; exact hp
    · rw [upd_ne e] at h; exact h

structure Bs (g : Gh) (H0 F0 H F : Hp) (st : Pk) : Prop where
  sub : Same F H
  sa : H g.a = some (.dK (srcKv g st))
  sl : H g.l = some (.lst (st.cells.map V.int))
  na : F g.a = none
  nl : F g.l = none
  ne : g.a ≠ g.l
  ok : st.ok
  stp : Stp g H0 F0 H F

section
variable {g : Gh} {H0 F0 H F H' F' : Hp} {st st' : Pk}
theorem Bs.base (b : Bs g H0 F0 H F st) : Bs g H F H F st := ⟨b.sub, b.sa, b.sl, b.na, b.nl, b.ne, b.ok, .refl _ _ _⟩
theorem Bs.trans (b : Bs g H0 F0 H F st) (c : Bs g H F H' F' st') : Bs g H0 F0 H' F' st' := ⟨c.sub, c.sa, c.sl, c.na, c.nl, c.ne, c.ok, b.stp.trans c.stp⟩
theorem Bs.newF {p : Addr} {o : HO} (b : Bs g H0 F0 H F st) (hp : H p = none) : Bs g H0 F0 (upd H p o) (upd F p o) st where
  sub := fun c u h => by
    by_cases e : c = p
    · subst e; rw [upd_same] at h; rw [upd_same]; exact h
    · rw [upd_ne e] at h; rw [upd_ne e]; exact b.sub c u h
  sa := by rw [upd_ne (ne_of_none b.sa hp)]; exact b.sa
  sl := by rw [upd_ne (ne_of_none b.sl hp)]; exact b.sl
  na := by rw [upd_ne (ne_of_none b.sa hp)]; exact b.na
  nl := by rw [upd_ne (ne_of_none b.sl hp)]; exact b.nl
  ne := b.ne
  ok := b.ok
  stp := b.stp.trans (.newF hp b.sub)
theorem Bs.newH {p : Addr} {o : HO} (b : Bs g H0 F0 H F st) (hp : H p = none) : Bs g H0 F0 (upd H p o) F st where
  sub := fun c u h => by rw [upd_ne (ne_of_none (b.sub c u h) hp)]; exact b.sub c u h
  sa := by rw [upd_ne (ne_of_none b.sa hp)]; exact b.sa
  sl := by rw [upd_ne (ne_of_none b.sl hp)]; exact b.sl
  na := b.na
  nl := b.nl
  ne := b.ne
  ok := b.ok
  stp := b.stp.trans (.newH hp)
end

/-! ### a frame's slots -/
inductive Sl where
  | no
  | vl (d : PyData)
  | ol (ds : List PyData)
  | od (kvs : List (PyData × PyData))
  | src
  | scl
abbrev Ev := List Sl
def Sl.owned : Sl → Bool
  | .ol _ => true
  | .od _ => true
  | _ => false
def SlOk (K : PySem.W.Frag) (g : Gh) (H0 H F : Hp) : Sl → Option V → Prop
  | .no, _ => True
  | .vl d, x => ∃ v, x = some v ∧ Rp K F v d
  | .ol ds, x => ∃ a vs, x = some (.ref a) ∧ H a = some (.lst vs) ∧ F a = none ∧ a ≠ g.a ∧ a ≠ g.l ∧ H0 a = none ∧ RpA K F vs ds
  | .od kvs, x => ∃ a ks, x = some (.ref a) ∧ H a = some (.dK ks) ∧ F a = none ∧ a ≠ g.a ∧ a ≠ g.l ∧ H0 a = none ∧ RpK K F ks kvs
  | .src, x => x = some (.ref g.a)
  | .scl, x => x = some (.ref g.l)
structure Slots (K : PySem.W.Frag) (g : Gh) (H0 H F : Hp) (σ : St) (ρ : Ev) : Prop where
  len : σ.length = ρ.length
  at_ : ∀ (i : Nat) (s : Sl) (x : Option V), ρ[i]? = some s → σ[i]? = some x → SlOk K g H0 H F s x
  dis : ∀ (i j : Nat) (s t : Sl) (a : Addr), i ≠ j → ρ[i]? = some s → ρ[j]? = some t → s.owned = true → t.owned = true → σ[i]? = some (some (.ref a)) → σ[j]? = some (some (.ref a)) → False
section
variable {K : PySem.W.Frag} {g : Gh} {H0 F0 H F H' F' : Hp} {st st' : Pk} {σ : St} {ρ : Ev}
theorem Stp.own {a : Addr} {o : HO} (p : Stp g H F H' F') (n : F a = none) (h : H a = some o) : F' a = none := by
  cases q : F' a with
  | none => rfl
  | some u =>
    rcases p.nw a u q with z | z
    · rw [n] at z; cases z
    · rw [h] at z; cases z
theorem SlOk.step (p : Stp g H F H' F') : ∀ {s : Sl} {x : Option V}, SlOk K g H0 H F s x → SlOk K g H0 H' F' s x
  | .no, _, _ => True.intro
  | .vl d, _, ⟨v, e, r⟩ => ⟨v, e, Rp.mono p.fr _ _ r⟩
  | .ol ds, _, ⟨a, vs, e, h, n, n1, n2, n3, r⟩ => ⟨a, vs, e, p.kp _ _ h n1 n2, p.own n h, n1, n2, n3, RpA.mono p.fr _ _ r⟩
  | .od kvs, _, ⟨a, ks, e, h, n, n1, n2, n3, r⟩ => ⟨a, ks, e, p.kp _ _ h n1 n2, p.own n h, n1, n2, n3, RpK.mono p.fr _ _ r⟩
  | .src, _, h => h
  | .scl, _, h => h
theorem Slots.step (s : Slots K g H0 H F σ ρ) (p : Stp g H F H' F') : Slots K g H0 H' F' σ ρ := ⟨s.len, fun i t x e1 e2 => (s.at_ i t x e1 e2).step p, s.dis⟩
theorem Slots.get {i : Nat} {s : Sl} (h : Slots K g H0 H F σ ρ) (e : ρ[i]? = some s) : ∃ x, σ[i]? = some x ∧ SlOk K g H0 H F s x := by
  have hi : i < σ.length := by rw [h.len]; exact (List.getElem?_eq_some_iff.mp e).1
  exact ⟨_, List.getElem?_eq_getElem hi, h.at_ i s _ e (List.getElem?_eq_getElem hi)⟩
/-- a slot that owns nothing is stored -/
theorem Slots.put {i : Nat} {s : Sl} {v : V} (h : Slots K g H0 H F σ ρ) (hs : SlOk K g H0 H F s (some v)) (ho : s.owned = false) : Slots K g H0 H F (σ.set i (some v)) (ρ.set i s) where
  len := by rw [List.length_set, List.length_set]; exact h.len
  at_ := fun j t x e1 e2 => by
    by_cases hj : j = i
    · subst hj
      have l1 : j < ρ.length := by have := (List.getElem?_eq_some_iff.mp e1).1; rwa [List.length_set] at this
      rw [List.getElem?_set_self l1] at e1
      rw [List.getElem?_set_self (by rw [h.len]; exact l1)] at e2
      cases e1; cases e2; exact hs
    · rw [List.getElem?_set_ne (Ne.symm hj)] at e1 e2
      exact h.at_ j t x e1 e2
  dis := fun j k t u a hjk e1 e2 o1 o2 e3 e4 => by
    by_cases hj : j = i
    · subst hj
      have l1 : j < ρ.length := by have := (List.getElem?_eq_some_iff.mp e1).1; rwa [List.length_set] at this
      rw [List.getElem?_set_self l1] at e1
      cases e1; rw [ho] at o1; cases o1
    · by_cases hk : k = i
      · subst hk
        have l1 : k < ρ.length := by have := (List.getElem?_eq_some_iff.mp e2).1; rwa [List.length_set] at this
        rw [List.getElem?_set_self l1] at e2
        cases e2; rw [ho] at o2; cases o2
      · rw [List.getElem?_set_ne (Ne.symm hj)] at e1 e3
        rw [List.getElem?_set_ne (Ne.symm hk)] at e2 e4
        exact h.dis j k t u a hjk e1 e2 o1 o2 e3 e4
/-- an owned slot is stored: its address stands in no other owned slot -/
theorem Slots.putO {i : Nat} {s : Sl} {p : Addr} (h : Slots K g H0 H F σ ρ) (hs : SlOk K g H0 H F s (some (.ref p)))
    (hn : ∀ (j : Nat) (t : Sl), j ≠ i → ρ[j]? = some t → t.owned = true → σ[j]? = some (some (.ref p)) → False) : Slots K g H0 H F (σ.set i (some (.ref p))) (ρ.set i s) where
  len := by rw [List.length_set, List.length_set]; exact h.len
  at_ := fun j t x e1 e2 => by
    by_cases hj : j = i
    · subst hj
      have l1 : j < ρ.length := by have := (List.getElem?_eq_some_iff.mp e1).1; rwa [List.length_set] at this
      rw [List.getElem?_set_self l1] at e1
      rw [List.getElem?_set_self (by rw [h.len]; exact l1)] at e2
      cases e1; cases e2; exact hs
    · rw [List.getElem?_set_ne (Ne.symm hj)] at e1 e2
      exact h.at_ j t x e1 e2
  dis := fun j k t u a hjk e1 e2 o1 o2 e3 e4 => by
    by_cases hj : j = i
    · subst hj
      have l1 : j < ρ.length := by have := (List.getElem?_eq_some_iff.mp e1).1; rwa [List.length_set] at this
      rw [List.getElem?_set_self (by rw [h.len]; exact l1)] at e3
      cases e3
      rw [List.getElem?_set_ne hjk] at e2 e4
      exact hn k u (Ne.symm hjk) e2 o2 e4
    · by_cases hk : k = i
      · subst hk
        have l1 : k < ρ.length := by have := (List.getElem?_eq_some_iff.mp e2).1; rwa [List.length_set] at this
        rw [List.getElem?_set_self (by rw [h.len]; exact l1)] at e4
        cases e4
        rw [List.getElem?_set_ne (Ne.symm hjk)] at e1 e3
        exact hn j t hjk e1 o1 e3
      · rw [List.getElem?_set_ne (Ne.symm hj)] at e1 e3
        rw [List.getElem?_set_ne (Ne.symm hk)] at e2 e4
        exact h.dis j k t u a hjk e1 e2 o1 o2 e3 e4
/-- .. of a new object -/
theorem Slots.fresh {i : Nat} {s : Sl} {p : Addr} (h : Slots K g H0 H F σ ρ) (hs : SlOk K g H0 H' F' s (some (.ref p))) (st : Stp g H F H' F') (hp : H p = none) : Slots K g H0 H' F' (σ.set i (some (.ref p))) (ρ.set i s) := by
  refine (h.step st).putO hs fun j t hj e o e2 => ?_
  have q := h.at_ j t _ e e2
  cases t with
  | no => cases o
  | vl d => cases o
  | src => cases o
  | scl => cases o
  | ol ds =>
    obtain ⟨a, vs, e3, e4, _⟩ := q
    cases e3; rw [hp] at e4; cases e4
  | od ds =>
    obtain ⟨a, vs, e3, e4, _⟩ := q
    cases e3; rw [hp] at e4; cases e4
/-- an owned object is frozen -/
theorem SlOk.freeze {s : Sl} {x : Option V} {a : Addr} {o : HO} (hs : SlOk K g H0 H F s x) (ha : F a = none) (hne : s.owned = true → x ≠ some (.ref a)) : SlOk K g H0 (upd H a o) (upd F a o) s x := by
  have sm : Same F (upd F a o) := fun b u h => by rw [upd_ne (ne_of_none h ha)]; exact h
  cases s with
  | no => exact True.intro
  | vl d => obtain ⟨v, e, r⟩ := hs; exact ⟨v, e, Rp.mono sm _ _ r⟩
  | src => exact hs
  | scl => exact hs
  | ol ds =>
    obtain ⟨b, vs, e, h, n, n1, n2, n3, r⟩ := hs
    have hb : b ≠ a := fun z => hne rfl (by rw [e, z])
    exact ⟨b, vs, e, by rw [upd_ne hb]; exact h, by rw [upd_ne hb]; exact n, n1, n2, n3, RpA.mono sm _ _ r⟩
  | od ds =>
    obtain ⟨b, vs, e, h, n, n1, n2, n3, r⟩ := hs
    have hb : b ≠ a := fun z => hne rfl (by rw [e, z])
    exact ⟨b, vs, e, by rw [upd_ne hb]; exact h, by rw [upd_ne hb]; exact n, n1, n2, n3, RpK.mono sm _ _ r⟩
end
end DL
end

section
set_option Elab.async false
set_option linter.all false
set_option maxRecDepth 100000
set_option maxHeartbeats 4000000
/-! DL2: judgements of expressions by mirrors; names, constants, operators, displays. -/
namespace DL
open PySem L2

abbrev M := StateT Pk Option
def lft {α : Type} (o : Option α) : M α := fun st => o.map (fun a => (a, st))
theorem bnd {α β : Type} {x : M α} {f : α → M β} {st : Pk} {r : β × Pk} (h : (x >>= f) st = some r) : ∃ a st', x st = some (a, st') ∧ f a st' = some r := by
  have h' : (x st).bind (fun p => f p.1 p.2) = some r := h
  obtain ⟨p, h1, h2⟩ := Option.bind_eq_some_iff.mp h'
  exact ⟨p.1, p.2, h1, h2⟩
theorem lfts {α : Type} {o : Option α} {st : Pk} {a : α} {st' : Pk} (h : lft o st = some (a, st')) : o = some a ∧ st' = st := by
  cases o with
  | none => cases h
  | some b =>
    have h' : some (b, st) = some (a, st') := h
    cases h'
    exact ⟨rfl, rfl⟩
theorem purs {α : Type} {x a : α} {st st' : Pk} (h : (pure x : M α) st = some (a, st')) : x = a ∧ st' = st := by
  have h' : some (x, st) = some (a, st') := h
  cases h'
  exact ⟨rfl, rfl⟩

/-! ### values that may be read: frozen, or a list or a dict at hand -/
def RpB (K : PySem.W.Frag) (g : Gh) (H F : Hp) (v : V) (d : PyData) : Prop :=
  Rp K F v d ∨ (∃ a vs ds, v = .ref a ∧ d = .list ds ∧ H a = some (.lst vs) ∧ F a = none ∧ a ≠ g.a ∧ a ≠ g.l ∧ RpA K F vs ds) ∨
    (∃ a ks kvs, v = .ref a ∧ d = .dict kvs ∧ H a = some (.dK ks) ∧ F a = none ∧ a ≠ g.a ∧ a ≠ g.l ∧ RpK K F ks kvs)
section
variable {K : PySem.W.Frag} {g : Gh} {H F H' F' : Hp} {v : V} {d : PyData}
theorem RpB.step (r : RpB K g H F v d) (p : Stp g H F H' F') : RpB K g H' F' v d := by
  rcases r with r | ⟨a, vs, ds, e1, e2, h, n, n1, n2, r⟩ | ⟨a, ks, kvs, e1, e2, h, n, n1, n2, r⟩
  · exact .inl (Rp.mono p.fr _ _ r)
  · exact .inr (.inl ⟨a, vs, ds, e1, e2, p.kp _ _ h n1 n2, p.own n h, n1, n2, RpA.mono p.fr _ _ r⟩)
  · exact .inr (.inr ⟨a, ks, kvs, e1, e2, p.kp _ _ h n1 n2, p.own n h, n1, n2, RpK.mono p.fr _ _ r⟩)
theorem RpB.list {ds : List PyData} (sub : Same F H) (r : RpB K g H F v (.list ds)) : ∃ a vs, v = .ref a ∧ H a = some (.lst vs) ∧ RpA K F vs ds := by
  rcases r with r | ⟨a, vs, ds', e1, e2, h, n, n1, n2, r⟩ | ⟨a, ks, kvs, e1, e2, h, n, n1, n2, r⟩
  · cases r with
    | lst h1 h2 => exact ⟨_, _, rfl, sub _ _ h1, h2⟩
  · cases e2; exact ⟨a, vs, e1, h, r⟩
  · cases e2
theorem RpB.dict {kvs : List (PyData × PyData)} (sub : Same F H) (r : RpB K g H F v (.dict kvs)) : ∃ a ks, v = .ref a ∧ Rd H a (.dK ks) ∧ RpK K F ks kvs := by
  rcases r with r | ⟨a, vs, ds', e1, e2, h, n, n1, n2, r⟩ | ⟨a, ks, kvs', e1, e2, h, n, n1, n2, r⟩
  · cases r with
    | dic h1 h2 => exact ⟨_, _, rfl, .inr ⟨_, sub _ _ h1⟩, h2⟩
  · cases e2
  · cases e2; exact ⟨a, ks, e1, .inl h, r⟩
theorem RpB.tuple {ds : List PyData} (sub : Same F H) (r : RpB K g H F v (.tuple ds)) : ∃ a vs, v = .ref a ∧ TpK K F a vs ∧ SqT K H a vs ∧ RpA K F vs ds := by
  rcases r with r | ⟨a, vs, ds', e1, e2, h, n, n1, n2, r⟩ | ⟨a, ks, kvs, e1, e2, h, n, n1, n2, r⟩
  · cases r with
    | tup h1 h2 => exact ⟨_, _, rfl, h1, Same.sqT sub h1.sq, h2⟩
  · cases e2
  · cases e2
theorem RpB.int {i : Int} (r : RpB K g H F v (.int i)) : v = .int i := by
  rcases r with r | ⟨a, vs, ds', e1, e2, h, n, n1, n2, r⟩ | ⟨a, ks, kvs, e1, e2, h, n, n1, n2, r⟩
  · cases r; rfl
  · cases e2
  · cases e2
theorem RpB.bool {i : Bool} (r : RpB K g H F v (.bool i)) : v = .bl i := by
  rcases r with r | ⟨a, vs, ds', e1, e2, h, n, n1, n2, r⟩ | ⟨a, ks, kvs, e1, e2, h, n, n1, n2, r⟩
  · cases r; rfl
  · cases e2
  · cases e2
theorem RpB.str {i : Str} (r : RpB K g H F v (.str i)) : v = .str i := by
  rcases r with r | ⟨a, vs, ds', e1, e2, h, n, n1, n2, r⟩ | ⟨a, ks, kvs, e1, e2, h, n, n1, n2, r⟩
  · cases r; rfl
  · cases e2
  · cases e2
theorem RpB.none (r : RpB K g H F v .none) : v = .non := by
  rcases r with r | ⟨a, vs, ds', e1, e2, h, n, n1, n2, r⟩ | ⟨a, ks, kvs, e1, e2, h, n, n1, n2, r⟩
  · cases r; rfl
  · cases e2
  · cases e2
end

/-! ### the judgements -/
/-- an expression does what m says: its value is frozen data -/
def tE (K : PySem.W.Frag) (g : Gh) (H0 F0 : Hp) (m : Ev → M PyData) : TE := fun σ H Q => ∃ ρ F st d st', Bs g H0 F0 H F st ∧ Slots K g H0 H F σ ρ ∧ m ρ st = some (d, st') ∧
  ∀ v H' F', Bs g H F H' F' st' → Rp K F' v d → Q v H'
/-- .. its value may be read -/
def tB (K : PySem.W.Frag) (g : Gh) (H0 F0 : Hp) (m : Ev → M PyData) : TE := fun σ H Q => ∃ ρ F st d st', Bs g H0 F0 H F st ∧ Slots K g H0 H F σ ρ ∧ m ρ st = some (d, st') ∧
  ∀ v H' F', Bs g H F H' F' st' → RpB K g H' F' v d → Q v H'
/-- .. its value is a new list that nobody else holds -/
def tF (K : PySem.W.Frag) (g : Gh) (H0 F0 : Hp) (m : Ev → M (List PyData)) : TE := fun σ H Q => ∃ ρ F st ds st', Bs g H0 F0 H F st ∧ Slots K g H0 H F σ ρ ∧ m ρ st = some (ds, st') ∧
  ∀ a vs H' F', Bs g H F H' F' st' → H a = none → H' a = some (.lst vs) → F' a = none → RpA K F' vs ds → Q (.ref a) H'
/-- .. a new dict -/
def tD (K : PySem.W.Frag) (g : Gh) (H0 F0 : Hp) (m : Ev → M (List (PyData × PyData))) : TE := fun σ H Q => ∃ ρ F st ds st', Bs g H0 F0 H F st ∧ Slots K g H0 H F σ ρ ∧ m ρ st = some (ds, st') ∧
  ∀ a ks H' F', Bs g H F H' F' st' → H a = none → H' a = some (.dK ks) → F' a = none → RpK K F' ks ds → Q (.ref a) H'
def tT (K : PySem.W.Frag) (g : Gh) (H0 F0 : Hp) (m : Ev → M Bool) : TT := fun σ H Q => ∃ ρ F st d st', Bs g H0 F0 H F st ∧ Slots K g H0 H F σ ρ ∧ m ρ st = some (d, st') ∧
  ∀ H' F', Bs g H F H' F' st' → Q d H'
def tA (K : PySem.W.Frag) (g : Gh) (H0 F0 : Hp) (m : Ev → M (List PyData)) : TA := fun σ H Q => ∃ ρ F st d st', Bs g H0 F0 H F st ∧ Slots K g H0 H F σ ρ ∧ m ρ st = some (d, st') ∧
  ∀ vs H' F', Bs g H F H' F' st' → RpA K F' vs d → Q vs H'
/-- arguments for a built-in: each may be read -/
def RpBs (K : PySem.W.Frag) (g : Gh) (H F : Hp) : List V → List PyData → Prop := Paired (RpB K g H F)
theorem RpBs.step {K : PySem.W.Frag} {g : Gh} {H F H' F' : Hp} : ∀ {vs : List V} {ds : List PyData}, RpBs K g H F vs ds → Stp g H F H' F' → RpBs K g H' F' vs ds
  | _, _, .nil, _ => .nil
  | _, _, .cons r t, p => .cons (r.step p) (RpBs.step t p)
def tAB (K : PySem.W.Frag) (g : Gh) (H0 F0 : Hp) (m : Ev → M (List PyData)) : TA := fun σ H Q => ∃ ρ F st d st', Bs g H0 F0 H F st ∧ Slots K g H0 H F σ ρ ∧ m ρ st = some (d, st') ∧
  ∀ vs H' F', Bs g H F H' F' st' → RpBs K g H' F' vs d → Q vs H'

def SE (X : Cx) (e : Expr) (m : Ev → M PyData) : Prop := ∀ g H0 F0, PE X e (tE X.K g H0 F0 m)
def SB (X : Cx) (e : Expr) (m : Ev → M PyData) : Prop := ∀ g H0 F0, PE X e (tB X.K g H0 F0 m)
def SF (X : Cx) (e : Expr) (m : Ev → M (List PyData)) : Prop := ∀ g H0 F0, PE X e (tF X.K g H0 F0 m)
def SD (X : Cx) (e : Expr) (m : Ev → M (List (PyData × PyData))) : Prop := ∀ g H0 F0, PE X e (tD X.K g H0 F0 m)
def STs (X : Cx) (e : Expr) (m : Ev → M Bool) : Prop := ∀ g H0 F0, PT X e (tT X.K g H0 F0 m)
def SW (X : Cx) (e : Expr) (m : Ev → M Bool) : Prop := ∀ g H0 F0, PW X e (tT X.K g H0 F0 m)
def SA (X : Cx) (es : List Expr) (m : Ev → M (List PyData)) : Prop := ∀ g H0 F0, PA X es (tA X.K g H0 F0 m)
def SAB (X : Cx) (es : List Expr) (m : Ev → M (List PyData)) : Prop := ∀ g H0 F0, PA X es (tAB X.K g H0 F0 m)

theorem _root_.L2.PE.imp {X : Cx} {e : Expr} {t t' : TE} (h : PE X e t) (hi : ∀ σ H Q, t' σ H Q → t σ H Q) : PE X e t' := ⟨fun pins s σ H Q I q => h.run pins s σ H Q I (hi _ _ _ q)⟩
theorem _root_.L2.PT.imp {X : Cx} {e : Expr} {t t' : TT} (h : PT X e t) (hi : ∀ σ H Q, t' σ H Q → t σ H Q) : PT X e t' := ⟨fun pins s σ H Q I q => h.run pins s σ H Q I (hi _ _ _ q)⟩
theorem _root_.L2.PW.imp {X : Cx} {e : Expr} {t t' : TT} (h : PW X e t) (hi : ∀ σ H Q, t' σ H Q → t σ H Q) : PW X e t' := ⟨fun wh pins s σ H Q I q => h.run wh pins s σ H Q I (hi _ _ _ q)⟩
theorem _root_.L2.PA.imp {X : Cx} {e : List Expr} {t t' : TA} (h : PA X e t) (hi : ∀ σ H Q, t' σ H Q → t σ H Q) : PA X e t' := ⟨fun pos pins s σ H Q I q => h.run pos pins s σ H Q I (hi _ _ _ q)⟩

section
variable {X : Cx} {e a b c : Expr} {es : List Expr} {m ma mb mc : Ev → M PyData} {pos : Pos}

theorem SE.toB (h : SE X e m) : SB X e m := fun g H0 F0 => (h g H0 F0).imp fun σ H Q ⟨ρ, F, st, d, st', b, s, e, q⟩ => ⟨ρ, F, st, d, st', b, s, e, fun v H' F' b' r => q v H' F' b' (.inl r)⟩
/-- a new list becomes data -/
def mFrz (m : Ev → M (List PyData)) : Ev → M PyData := fun ρ => do let ds ← m ρ; pure (.list ds)
def mFrzD (m : Ev → M (List (PyData × PyData))) : Ev → M PyData := fun ρ => do let ds ← m ρ; pure (.dict ds)
theorem Bs.frz {g : Gh} {H0 F0 H F H' F' : Hp} {st st' : Pk} {p : Addr} {o : HO} (b : Bs g H0 F0 H F st) (b' : Bs g H F H' F' st') (hp : H p = none) (ho : H' p = some o) (hn : F' p = none) : Bs g H F H' (upd F' p o) st' where
  sub := fun c u h => by
    by_cases e : c = p
    · subst e; rw [upd_same] at h; rw [ho]; exact h
    · rw [upd_ne e] at h; exact b'.sub c u h
  sa := b'.sa
  sl := b'.sl
  na := by rw [upd_ne (ne_of_none b.sa hp)]; exact b'.na
  nl := by rw [upd_ne (ne_of_none b.sl hp)]; exact b'.nl
  ne := b'.ne
  ok := b'.ok
  stp := ⟨fun c u h => by rw [upd_ne (ne_of_none (b'.stp.fr c u h) hn)]; exact b'.stp.fr c u h, fun c u h => by
    by_cases e : c = p
    · subst e; exact .inr hp
    · rw [upd_ne e] at h; exact b'.stp.nw c u h, b'.stp.kp, b'.stp.gr⟩
theorem Same.updN {F : Hp} {p : Addr} {o : HO} (hn : F p = none) : Same F (upd F p o) := fun c u h => by rw [upd_ne (ne_of_none h hn)]; exact h
theorem SF.toE {m : Ev → M (List PyData)} (h : SF X e m) : SE X e (mFrz m) := fun g H0 F0 => (h g H0 F0).imp fun σ H Q ⟨ρ, F, st, d, st', b, s, e, q⟩ => by
  obtain ⟨ds, st1, e1, e2⟩ := bnd e
  obtain ⟨rfl, rfl⟩ := purs e2
  exact ⟨ρ, F, st, ds, st', b, s, e1, fun a vs H' F' b' h1 h2 h3 r => q _ _ _ (b.frz b' h1 h2 h3) (.lst upd_same (RpA.mono (Same.updN h3) _ _ r))⟩
/-- a dict just made is locked for good -/
theorem pe_lockZ {t : TE} (h : PE X e t) : PE X e (fun σ H Q => t σ H fun v H1 => ∃ a ks, v = .ref a ∧ H1 a = some (.dK ks) ∧ ∀ o, Q v (upd H1 a (.frz o (.dK ks)))) := ⟨fun pins s σ H Q I hq =>
  thn (h.run pins s σ H _ I hq) fun u s1 ⟨x, H1, I1, r, a, ks, ex, hd, q⟩ => by
    obtain ⟨od, I2⟩ := I1.lock hd True.intro
    exact ⟨x, _, I2, r, q od⟩⟩
theorem Bs.frzL {g : Gh} {H0 F0 H F H' F' : Hp} {st st' : Pk} {p : Addr} {o : HO} (b : Bs g H0 F0 H F st) (b' : Bs g H F H' F' st') (hp : H p = none) (hn : F' p = none) : Bs g H F (upd H' p o) (upd F' p o) st' where
  sub := fun c u h => by
    by_cases e : c = p
    · subst e; rw [upd_same] at h ⊢; exact h
    · rw [upd_ne e] at h ⊢; exact b'.sub c u h
  sa := by rw [upd_ne (ne_of_none b.sa hp)]; exact b'.sa
  sl := by rw [upd_ne (ne_of_none b.sl hp)]; exact b'.sl
  na := by rw [upd_ne (ne_of_none b.sa hp)]; exact b'.na
  nl := by rw [upd_ne (ne_of_none b.sl hp)]; exact b'.nl
  ne := b'.ne
  ok := b'.ok
  stp := ⟨fun c u h => by rw [upd_ne (ne_of_none (b'.stp.fr c u h) hn)]; exact b'.stp.fr c u h, fun c u h => by
    by_cases e : c = p
    · subst e; exact .inr hp
    · rw [upd_ne e] at h; exact b'.stp.nw c u h, fun c u h n1 n2 => by rw [upd_ne (ne_of_none h hp)]; exact b'.stp.kp c u h n1 n2, fun c h => by
    by_cases e : c = p
    · subst e; exact hp
    · rw [upd_ne e] at h; exact b'.stp.gr c h⟩
theorem SD.toE {m : Ev → M (List (PyData × PyData))} (h : SD X e m) : SE X e (mFrzD m) := fun g H0 F0 => (pe_lockZ (h g H0 F0)).imp fun σ H Q ⟨ρ, F, st, d, st', b, s, e, q⟩ => by
  obtain ⟨ds, st1, e1, e2⟩ := bnd e
  obtain ⟨rfl, rfl⟩ := purs e2
  exact ⟨ρ, F, st, ds, st', b, s, e1, fun a vs H' F' b' h1 h2 h3 r => ⟨a, vs, rfl, h2, fun o => q _ _ _ (b.frzL b' h1 h3) (.dic upd_same (RpK.mono (Same.updN h3) _ _ r))⟩⟩
theorem SF.toB {m : Ev → M (List PyData)} (h : SF X e m) : SB X e (mFrz m) := h.toE.toB
theorem SD.toB {m : Ev → M (List (PyData × PyData))} (h : SD X e m) : SB X e (mFrzD m) := h.toE.toB

/-! ### names, constants -/
def rdV : Option Sl → Option PyData
  | some (.vl d) => some d
  | _ => none
def rdB : Option Sl → Option PyData
  | some (.vl d) => some d
  | some (.ol ds) => some (.list ds)
  | some (.od kvs) => some (.dict kvs)
  | _ => none
def mName (i : Nat) : Ev → M PyData := fun ρ => lft (rdV ρ[i]?)
def mOwn (i : Nat) : Ev → M PyData := fun ρ => lft (rdB ρ[i]?)
def mC (d : PyData) : Ev → M PyData := fun _ => pure d
theorem rdV_some {o : Option Sl} {d : PyData} (h : rdV o = some d) : o = some (.vl d) := by
  cases o with
  | none => cases h
  | some s => cases s <;> first | (cases h; rfl) | cases h
theorem se_name (i : Nat) {x : Str} {pos : Pos} (hN : X.N[i]? = some x := by rfl) (hv : Vis X.env.scope x := by first | exact Or.inl rfl | exact Or.inr (Or.inl rfl) | exact Or.inr (Or.inr rfl)) (hd : (x == ("__debug__" : Str)) = false := by decide)
    (hcd : (x == ("__classdict__" : Str)) = false := by decide) : SE X (.Name x pos) (mName i) := fun g H0 F0 => (pe_var hN hv hd hcd).imp fun σ H Q ⟨ρ, F, st, d, st', b, s, e, q⟩ => by
  obtain ⟨e0, rfl⟩ := lfts e
  obtain ⟨y, e1, v, rfl, r⟩ := s.get (rdV_some e0)
  exact ⟨v, e1, q v H F b.base r⟩
theorem sb_name (i : Nat) {x : Str} {pos : Pos} (hN : X.N[i]? = some x := by rfl) (hv : Vis X.env.scope x := by first | exact Or.inl rfl | exact Or.inr (Or.inl rfl) | exact Or.inr (Or.inr rfl)) (hd : (x == ("__debug__" : Str)) = false := by decide)
    (hcd : (x == ("__classdict__" : Str)) = false := by decide) : SB X (.Name x pos) (mOwn i) := fun g H0 F0 => (pe_var hN hv hd hcd).imp fun σ H Q ⟨ρ, F, st, d, st', b, s, e, q⟩ => by
  obtain ⟨e0, rfl⟩ := lfts e
  cases hρ : ρ[i]? with
  | none => rw [hρ] at e0; cases e0
  | some t =>
    rw [hρ] at e0
    obtain ⟨y, e1, k⟩ := s.get hρ
    cases t with
    | no => cases e0
    | src => cases e0
    | scl => cases e0
    | vl d' =>
      cases e0
      obtain ⟨v, rfl, r⟩ := k
      exact ⟨v, e1, q v H F b.base (.inl r)⟩
    | ol ds =>
      cases e0
      obtain ⟨a, vs, rfl, h, n, n1, n2, n3, r⟩ := k
      exact ⟨_, e1, q _ H F b.base (.inr (.inl ⟨a, vs, ds, rfl, rfl, h, n, n1, n2, r⟩))⟩
    | od ds =>
      cases e0
      obtain ⟨a, vs, rfl, h, n, n1, n2, n3, r⟩ := k
      exact ⟨_, e1, q _ H F b.base (.inr (.inr ⟨a, vs, ds, rfl, rfl, h, n, n1, n2, r⟩))⟩
theorem se_of {v : V} {d : PyData} (h : PE X e (tC v)) (hr : ∀ F, Rp X.K F v d) : SE X e (mC d) := fun g H0 F0 => h.imp fun σ H Q ⟨ρ, F, st, d, st', b, s, e, q⟩ => by
  obtain ⟨rfl, rfl⟩ := purs e
  exact q v H F b.base (hr F)
theorem se_int {i : Int} {j : Nat} : SE X (.Constant (.int i) j pos) (mC (.int i)) := se_of pe_int fun F => .int i
theorem se_bl {i : Bool} {j : Nat} : SE X (.Constant (.bool i) j pos) (mC (.bool i)) := se_of pe_bl fun F => .bl i
theorem se_non {j : Nat} : SE X (.Constant .none j pos) (mC .none) := se_of pe_non fun F => .non
theorem se_str {i : Str} {j : Nat} : SE X (.Constant (.str i) j pos) (mC (.str i)) := se_of pe_str fun F => .str i
/-- a module's constant: an int, or a tuple -/
theorem se_globI {x : Str} {i : Int} {t : Tok} (hg : Gl X x) (hm : X.mg x = some (.int i t)) (hd : (x == ("__debug__" : Str)) = false := by decide) : SE X (.Name x pos) (mC (.int i)) := se_of (pe_glob (v := .int i) hg hm ⟨t, rfl⟩ hd) fun F => .int i

/-! ### operators -/
def rD (K : PySem.W.Frag) (φ : PyData → PyData → Option PyData) : R2 := fun x y H Q => ∃ g F st d e r, Bs g H F H F st ∧ RpB K g H F x d ∧ RpB K g H F y e ∧ φ d e = some r ∧ ∀ v H' F', Bs g H F H' F' st → Rp K F' v r → Q v H'
def rDF (K : PySem.W.Frag) (φ : PyData → PyData → Option (List PyData)) : R2 := fun x y H Q => ∃ g F st d e r, Bs g H F H F st ∧ RpB K g H F x d ∧ RpB K g H F y e ∧ φ d e = some r ∧
  ∀ a vs H' F', Bs g H F H' F' st → H a = none → H' a = some (.lst vs) → F' a = none → RpA K F' vs r → Q (.ref a) H'
def OpD (X : Cx) (f : Value → Value → Sem Value) (φ : PyData → PyData → Option PyData) : Prop := OpR X f (rD X.K φ)
def OpF (X : Cx) (f : Value → Value → Sem Value) (φ : PyData → PyData → Option (List PyData)) : Prop := OpR X f (rDF X.K φ)
def mOp {α : Type} (φ : PyData → PyData → Option α) (ma mb : Ev → M PyData) : Ev → M α := fun ρ => do let x ← ma ρ; let y ← mb ρ; lft (φ x y)
/-- two readable operands -/
theorem two {K : PySem.W.Frag} {g : Gh} {H0 F0 : Hp} {α : Type} {φ : PyData → PyData → Option α} {σ : St} {H F : Hp} {ρ : Ev} {st st' : Pk} {r : α} {R : V → V → Hp → Prop} (b : Bs g H0 F0 H F st) (s : Slots K g H0 H F σ ρ) (e : mOp φ ma mb ρ st = some (r, st'))
    (h : ∀ x y v w H2 F2, φ x y = some r → Bs g H F H2 F2 st' → RpB K g H2 F2 v x → RpB K g H2 F2 w y → R v w H2) : tB K g H0 F0 ma σ H fun v H1 => tB K g H0 F0 mb σ H1 fun w H2 => R v w H2 := by
  obtain ⟨x, st1, e1, e⟩ := bnd e
  obtain ⟨y, st2, e2, e⟩ := bnd e
  obtain ⟨e3, rfl⟩ := lfts e
  exact ⟨ρ, F, st, x, st1, b, s, e1, fun v H1 F1 b1 r1 => ⟨ρ, F1, st1, y, st', b.trans b1, s.step b1.stp, e2, fun w H2 F2 b2 r2 => h x y v w H2 F2 e3 (b1.trans b2) (r1.step b2.stp) r2⟩⟩
theorem se_op {op : Operator} {φ : PyData → PyData → Option PyData} (ho : OpD X (binaryOp op) φ) (ha : SB X a ma) (hb : SB X b mb) : SE X (.BinOp a op b pos) (mOp φ ma mb) := fun g H0 F0 =>
  (pe_op ho (ha g H0 F0) (hb g H0 F0)).imp fun σ H Q ⟨ρ, F, st, d, st', b, s, e, q⟩ => two b s e fun x y v w H2 F2 e3 b2 r1 r2 => ⟨g, F2, st', x, y, d, b2.base, r1, r2, e3, fun u H3 F3 b3 r3 => q u H3 F3 (b2.trans b3) r3⟩
theorem none_of {g : Gh} {H F H' F' : Hp} {st : Pk} {p : Addr} (b : Bs g H F H' F' st) (h : H' p = none) : H p = none := b.stp.gr p h
theorem sf_op {op : Operator} {φ : PyData → PyData → Option (List PyData)} (ho : OpF X (binaryOp op) φ) (ha : SB X a ma) (hb : SB X b mb) : SF X (.BinOp a op b pos) (mOp φ ma mb) := fun g H0 F0 =>
  (pe_op ho (ha g H0 F0) (hb g H0 F0)).imp fun σ H Q ⟨ρ, F, st, d, st', b, s, e, q⟩ => two b s e fun x y v w H2 F2 e3 b2 r1 r2 => ⟨g, F2, st', x, y, d, b2.base, r1, r2, e3, fun u vs H3 F3 b3 h1 h2 h3 r3 => q u vs H3 F3 (b2.trans b3) (none_of b2 h1) h2 h3 r3⟩
/-- a comparison as a value, as a test -/
theorem se_cmp {op : CmpOp} {φ : PyData → PyData → Option PyData} (ho : OpD X (compareOp op) φ) (ha : SB X a ma) (hb : SB X b mb) (hm : behindInMarks op b = false := by rfl) : SE X (.Compare a [op] [b] pos) (mOp φ ma mb) := fun g H0 F0 =>
  (pe_cmpR ho (ha g H0 F0) (hb g H0 F0) hm).imp fun σ H Q ⟨ρ, F, st, d, st', b, s, e, q⟩ => two b s e fun x y v w H2 F2 e3 b2 r1 r2 => ⟨g, F2, st', x, y, d, b2.base, r1, r2, e3, fun u H3 F3 b3 r3 => q u H3 F3 (b2.trans b3) r3⟩
/-- an expression whose value is a bool, as a test's bool -/
def asB : PyData → Option Bool
  | .bool b => some b
  | _ => none
theorem asB_some {d : PyData} {k : Bool} (h : asB d = some k) : d = .bool k := by
  cases d <;> first | (cases h; rfl) | cases h
def mAsB (m : Ev → M PyData) : Ev → M Bool := fun ρ => do let d ← m ρ; lft (asB d)
theorem st_cmp {op : CmpOp} {φ : PyData → PyData → Option PyData} (ho : OpD X (compareOp op) φ) (ha : SB X a ma) (hb : SB X b mb) (hm : behindInMarks op b = false := by rfl) : STs X (.Compare a [op] [b] pos) (mAsB (mOp φ ma mb)) := fun g H0 F0 =>
  (pt_cmpR ho (ha g H0 F0) (hb g H0 F0) hm).imp fun σ H Q ⟨ρ, F, st, k, st', b, s, e, q⟩ => by
    obtain ⟨d, st1, e1, e⟩ := bnd e
    obtain ⟨e2, rfl⟩ := lfts e
    cases asB_some e2
    refine two b s e1 fun x y v w H2 F2 e3 b2 r1 r2 => ⟨g, F2, st', x, y, _, b2.base, r1, r2, e3, fun u H3 F3 b3 r3 => ?_⟩
    cases r3
    exact ⟨_, rfl, q H3 F3 (b2.trans b3)⟩
/-- a test of an expression whose value is a bool (a call, a name, a constant) -/
theorem st_val (h : SE X e m) (he : ∀ whole, isTrue e X.env whole = (do let v ← whole; standAt e.pos; holding [v] (truthy v)) := by intro _; rfl) : STs X e (mAsB m) := fun g H0 F0 =>
  (pt_val (h g H0 F0) he).imp fun σ H Q ⟨ρ, F, st, k, st', b, s, e, q⟩ => by
    obtain ⟨d, st1, e1, e⟩ := bnd e
    obtain ⟨e2, rfl⟩ := lfts e
    cases asB_some e2
    exact ⟨ρ, F, st, _, st', b, s, e1, fun v H' F' b' r => by cases r; exact ⟨_, rfl, q H' F' b'⟩⟩
def mNotT (m : Ev → M Bool) : Ev → M Bool := fun ρ => do let k ← m ρ; pure (!k)
def mAndT (ma mb : Ev → M Bool) : Ev → M Bool := fun ρ => do if (← ma ρ) then mb ρ else pure false
def mOrT (ma mb : Ev → M Bool) : Ev → M Bool := fun ρ => do if (← ma ρ) then pure true else mb ρ
theorem st_not {m : Ev → M Bool} (h : STs X e m) : STs X (.UnaryOp .Not e pos) (mNotT m) := fun g H0 F0 =>
  (pt_not (h g H0 F0)).imp fun σ H Q ⟨ρ, F, st, k, st', b, s, e, q⟩ => by
    obtain ⟨d, st1, e1, e⟩ := bnd e
    obtain ⟨rfl, rfl⟩ := purs e
    exact ⟨ρ, F, st, _, st', b, s, e1, fun H' F' b' => q H' F' b'⟩
theorem SW.t {m : Ev → M Bool} (h : SW X e m) : STs X e m := fun g H0 F0 => (h g H0 F0).pt
theorem sw_and1 {m : Ev → M Bool} (h : STs X a m) : SW X (.BoolOp .And [a] pos) m := fun g H0 F0 => pw_and1 (h g H0 F0)
theorem sw_or1 {m : Ev → M Bool} (h : STs X a m) : SW X (.BoolOp .Or [a] pos) m := fun g H0 F0 => pw_or1 (h g H0 F0)
theorem sw_and {rest : List Expr} {m1 m2 : Ev → M Bool} (ha : STs X a m1) (hb : SW X (.BoolOp .And (b :: rest) pos) m2) : SW X (.BoolOp .And (a :: b :: rest) pos) (mAndT m1 m2) := fun g H0 F0 =>
  (pw_and (ha g H0 F0) (hb g H0 F0)).imp fun σ H Q ⟨ρ, F, st, k, st', b, s, e, q⟩ => by
    obtain ⟨d, st1, e1, e⟩ := bnd e
    refine ⟨ρ, F, st, _, st1, b, s, e1, fun H' F' b' => ?_⟩
    cases d with
    | true => exact ⟨ρ, F', st1, _, st', b.trans b', s.step b'.stp, e, fun H2 F2 b2 => q H2 F2 (b'.trans b2)⟩
    | false =>
      obtain ⟨rfl, rfl⟩ := purs e
      exact q H' F' b'
theorem sw_or {rest : List Expr} {m1 m2 : Ev → M Bool} (ha : STs X a m1) (hb : SW X (.BoolOp .Or (b :: rest) pos) m2) : SW X (.BoolOp .Or (a :: b :: rest) pos) (mOrT m1 m2) := fun g H0 F0 =>
  (pw_or (ha g H0 F0) (hb g H0 F0)).imp fun σ H Q ⟨ρ, F, st, k, st', b, s, e, q⟩ => by
    obtain ⟨d, st1, e1, e⟩ := bnd e
    refine ⟨ρ, F, st, _, st1, b, s, e1, fun H' F' b' => ?_⟩
    cases d with
    | false => exact ⟨ρ, F', st1, _, st', b.trans b', s.step b'.stp, e, fun H2 F2 b2 => q H2 F2 (b'.trans b2)⟩
    | true =>
      obtain ⟨rfl, rfl⟩ := purs e
      exact q H' F' b'
/-! .. as values: bools -/
def mAndV (ma mb : Ev → M PyData) : Ev → M PyData := fun ρ => do let d ← ma ρ; let k ← lft (asB d); if k then mb ρ else pure (.bool false)
def mOrV (ma mb : Ev → M PyData) : Ev → M PyData := fun ρ => do let d ← ma ρ; let k ← lft (asB d); if k then pure (.bool true) else mb ρ
def mNotV (ma : Ev → M PyData) : Ev → M PyData := fun ρ => do let d ← ma ρ; let k ← lft (asB d); pure (.bool (!k))
theorem se_one {op : BoolOp} (h : SE X a m) : SE X (.BoolOp op [a] pos) m := fun g H0 F0 => pe_one (h g H0 F0)
theorem se_and {rest : List Expr} (ha : SE X a ma) (hb : SE X (.BoolOp .And (b :: rest) pos) mb) : SE X (.BoolOp .And (a :: b :: rest) pos) (mAndV ma mb) := fun g H0 F0 =>
  (pe_and (ha g H0 F0) (hb g H0 F0)).imp fun σ H Q ⟨ρ, F, st, k, st', b, s, e, q⟩ => by
    obtain ⟨d, st1, e1, e⟩ := bnd e
    obtain ⟨k1, st2, e2, e⟩ := bnd e
    obtain ⟨e4, rfl⟩ := lfts e2
    cases asB_some e4
    refine ⟨ρ, F, st, _, st2, b, s, e1, fun v H' F' b' r => ?_⟩
    cases r
    refine ⟨_, rfl, ?_⟩
    cases k1 with
    | true => exact ⟨ρ, F', st2, _, st', b.trans b', s.step b'.stp, e, fun v H2 F2 b2 r => q v H2 F2 (b'.trans b2) r⟩
    | false =>
      obtain ⟨rfl, rfl⟩ := purs e
      exact q _ H' F' b' (.bl false)
theorem se_or {rest : List Expr} (ha : SE X a ma) (hb : SE X (.BoolOp .Or (b :: rest) pos) mb) : SE X (.BoolOp .Or (a :: b :: rest) pos) (mOrV ma mb) := fun g H0 F0 =>
  (pe_or (ha g H0 F0) (hb g H0 F0)).imp fun σ H Q ⟨ρ, F, st, k, st', b, s, e, q⟩ => by
    obtain ⟨d, st1, e1, e⟩ := bnd e
    obtain ⟨k1, st2, e2, e⟩ := bnd e
    obtain ⟨e4, rfl⟩ := lfts e2
    cases asB_some e4
    refine ⟨ρ, F, st, _, st2, b, s, e1, fun v H' F' b' r => ?_⟩
    cases r
    refine ⟨_, rfl, ?_⟩
    cases k1 with
    | false => exact ⟨ρ, F', st2, _, st', b.trans b', s.step b'.stp, e, fun v H2 F2 b2 r => q v H2 F2 (b'.trans b2) r⟩
    | true =>
      obtain ⟨rfl, rfl⟩ := purs e
      exact q _ H' F' b' (.bl true)
theorem se_not (ha : SE X a ma) : SE X (.UnaryOp .Not a pos) (mNotV ma) := fun g H0 F0 =>
  (pe_not (ha g H0 F0)).imp fun σ H Q ⟨ρ, F, st, k, st', b, s, e, q⟩ => by
    obtain ⟨d, st1, e1, e⟩ := bnd e
    obtain ⟨k1, st2, e2, e⟩ := bnd e
    obtain ⟨e4, rfl⟩ := lfts e2
    cases asB_some e4
    obtain ⟨rfl, rfl⟩ := purs e
    refine ⟨ρ, F, st, _, st', b, s, e1, fun v H' F' b' r => ?_⟩
    cases r
    exact ⟨_, rfl, q _ H' F' b' (.bl _)⟩
def mIfE (c : Ev → M Bool) (ma mb : Ev → M PyData) : Ev → M PyData := fun ρ => do if (← c ρ) then ma ρ else mb ρ
theorem se_if {mt : Ev → M Bool} (hc : STs X c mt) (ha : SE X a ma) (hb : SE X b mb) : SE X (.IfExp c a b pos) (mIfE mt ma mb) := fun g H0 F0 =>
  (pe_ifExp (hc g H0 F0) (ha g H0 F0) (hb g H0 F0)).imp fun σ H Q ⟨ρ, F, st, k, st', b, s, e, q⟩ => by
    obtain ⟨d, st1, e1, e⟩ := bnd e
    refine ⟨ρ, F, st, _, st1, b, s, e1, fun H' F' b' => ?_⟩
    cases d with
    | true => exact ⟨ρ, F', st1, _, st', b.trans b', s.step b'.stp, e, fun v H2 F2 b2 r => q v H2 F2 (b'.trans b2) r⟩
    | false => exact ⟨ρ, F', st1, _, st', b.trans b', s.step b'.stp, e, fun v H2 F2 b2 r => q v H2 F2 (b'.trans b2) r⟩
def mIfB (c : Ev → M Bool) (ma mb : Ev → M PyData) : Ev → M PyData := mIfE c ma mb
theorem sb_if {mt : Ev → M Bool} (hc : STs X c mt) (ha : SB X a ma) (hb : SB X b mb) : SB X (.IfExp c a b pos) (mIfE mt ma mb) := fun g H0 F0 =>
  (pe_ifExp (hc g H0 F0) (ha g H0 F0) (hb g H0 F0)).imp fun σ H Q ⟨ρ, F, st, k, st', b, s, e, q⟩ => by
    obtain ⟨d, st1, e1, e⟩ := bnd e
    refine ⟨ρ, F, st, _, st1, b, s, e1, fun H' F' b' => ?_⟩
    cases d with
    | true => exact ⟨ρ, F', st1, _, st', b.trans b', s.step b'.stp, e, fun v H2 F2 b2 r => q v H2 F2 (b'.trans b2) r⟩
    | false => exact ⟨ρ, F', st1, _, st', b.trans b', s.step b'.stp, e, fun v H2 F2 b2 r => q v H2 F2 (b'.trans b2) r⟩

/-! ### argument lists, displays -/
def mNil : Ev → M (List PyData) := fun _ => pure []
def mCons (m : Ev → M PyData) (ms : Ev → M (List PyData)) : Ev → M (List PyData) := fun ρ => do let d ← m ρ; let ds ← ms ρ; pure (d :: ds)
theorem sa_nil : SA X [] mNil := fun g H0 F0 => pa_nil.imp fun σ H Q ⟨ρ, F, st, k, st', b, s, e, q⟩ => by
  obtain ⟨rfl, rfl⟩ := purs e
  exact q [] H F b.base .nil
theorem sa_cons {ms : Ev → M (List PyData)} (ha : SE X e m) (hr : SA X es ms) (hs : starEach (e :: es) X.env = (false, eval e X.env) :: starEach es X.env := by rfl) : SA X (e :: es) (mCons m ms) := fun g H0 F0 =>
  (pa_cons (ha g H0 F0) (hr g H0 F0) hs).imp fun σ H Q ⟨ρ, F, st, k, st', b, s, e, q⟩ => by
    obtain ⟨d, st1, e1, e⟩ := bnd e
    obtain ⟨ds, st2, e2, e⟩ := bnd e
    obtain ⟨rfl, rfl⟩ := purs e
    exact ⟨ρ, F, st, d, st1, b, s, e1, fun v H1 F1 b1 r1 => ⟨ρ, F1, st1, ds, st', b.trans b1, s.step b1.stp, e2, fun vs H2 F2 b2 r2 => q (v :: vs) H2 F2 (b1.trans b2) (.cons (Rp.mono b2.stp.fr _ _ r1) r2)⟩⟩
theorem sab_nil : SAB X [] mNil := fun g H0 F0 => pa_nil.imp fun σ H Q ⟨ρ, F, st, k, st', b, s, e, q⟩ => by
  obtain ⟨rfl, rfl⟩ := purs e
  exact q [] H F b.base .nil
theorem sab_cons {ms : Ev → M (List PyData)} (ha : SB X e m) (hr : SAB X es ms) (hs : starEach (e :: es) X.env = (false, eval e X.env) :: starEach es X.env := by rfl) : SAB X (e :: es) (mCons m ms) := fun g H0 F0 =>
  (pa_cons (ha g H0 F0) (hr g H0 F0) hs).imp fun σ H Q ⟨ρ, F, st, k, st', b, s, e, q⟩ => by
    obtain ⟨d, st1, e1, e⟩ := bnd e
    obtain ⟨ds, st2, e2, e⟩ := bnd e
    obtain ⟨rfl, rfl⟩ := purs e
    exact ⟨ρ, F, st, d, st1, b, s, e1, fun v H1 F1 b1 r1 => ⟨ρ, F1, st1, ds, st', b.trans b1, s.step b1.stp, e2, fun vs H2 F2 b2 r2 => q (v :: vs) H2 F2 (b1.trans b2) (.cons (r1.step b2.stp) r2)⟩⟩
def sz {α : Type} (xs : List α) : Option (List α) := if xs.length ≤ 1000000 then some xs else none
theorem szs {α : Type} {xs ys : List α} (h : sz xs = some ys) : xs = ys ∧ xs.length ≤ sizeLine := by
  unfold sz at h
  by_cases hl : xs.length ≤ 1000000
  · rw [if_pos hl] at h; cases h; exact ⟨rfl, by rw [sizeLine_eq]; omega⟩
  · rw [if_neg hl] at h; cases h
def mTup (ms : Ev → M (List PyData)) : Ev → M PyData := fun ρ => do let ds ← ms ρ; let ds ← lft (sz ds); pure (.tuple ds)
def mLst (ms : Ev → M (List PyData)) : Ev → M (List PyData) := fun ρ => do let ds ← ms ρ; lft (sz ds)
/-- a tuple just laid, kept as the object that it is -/
def tTupZ (t : L2.TA) : TE := fun σ H Q => t σ H fun xs H1 => xs.length ≤ sizeLine ∧ ∀ p o, H1 p = none → o.dict = none → Q (.ref p) (upd H1 p (.frz o (.tup xs)))
theorem pe_tupZ {k : Nat} {t : L2.TA} (h : PA X es t) : PE X (.Tuple es k pos) (tTupZ t) := ⟨fun pins s σ H Q I hq =>
  PySem.wpAny_Tuple_spliced (thn (h.run pos pins s σ H _ I hq) fun us s1 ⟨xs, H1, I1, r, z, q⟩ => ⟨by rw [← r.length]; exact z,
    .ref s1.heap.objs.size, _, I1.laid (t' := s1.toks) (o := .frz { cls := .type "tuple", data := .seq us.toArray } (.tup xs)) (fun b u e => Heap.get?_push_of_some _ e) (Nat.le_refl _) ⟨Heap.get?_push_size _ rfl, z, us, r, ⟨_, Heap.get?_push_size _ rfl, rfl, _, rfl⟩⟩, rfl,
    q _ _ (I1.hok.fresh (Nat.le_refl _)) rfl⟩)⟩
theorem noneF {g : Gh} {H0 F0 H F : Hp} {st : Pk} {p : Addr} (b : Bs g H0 F0 H F st) (hp : H p = none) : F p = none := by
  cases z : F p with
  | none => rfl
  | some o => have := b.sub _ _ z; rw [hp] at this; cases this
theorem Bs.tupNew {K : PySem.W.Frag} {g : Gh} {H F H2 F2 : Hp} {st : Pk} {p : Addr} {o : Obj} {vs : List V} {ds : List PyData} (b : Bs g H F H2 F2 st) (hp : H2 p = none) (ho : o.dict = none) (r : RpA K F2 vs ds) : Bs g H F (upd H2 p (.frz o (.tup vs))) (upd F2 p (.frz o (.tup vs))) st ∧ Rp K (upd F2 p (.frz o (.tup vs))) (.ref p) (.tuple ds) :=
  ⟨b.newF hp, .tup (.inl ⟨o, upd_same, ho⟩) (RpA.mono (Same.updN (noneF b hp)) _ _ r)⟩
theorem Bs.lstNew {K : PySem.W.Frag} {g : Gh} {H F H2 F2 : Hp} {st : Pk} {p : Addr} {vs : List V} {ds : List PyData} (b : Bs g H F H2 F2 st) (hp : H2 p = none) (r : RpA K F2 vs ds) : Bs g H F (upd H2 p (.lst vs)) (upd F2 p (.lst vs)) st ∧ Rp K (upd F2 p (.lst vs)) (.ref p) (.list ds) :=
  ⟨b.newF hp, .lst upd_same (RpA.mono (Same.updN (noneF b hp)) _ _ r)⟩
theorem se_tup {k : Nat} {ms : Ev → M (List PyData)} (h : SA X es ms) : SE X (.Tuple es k pos) (mTup ms) := fun g H0 F0 => (pe_tupZ (h g H0 F0)).imp fun σ H Q ⟨ρ, F, st, k, st', b, s, e, q⟩ => by
  obtain ⟨ds, st1, e1, f1⟩ := bnd e
  obtain ⟨ds2, st2, e2, f2⟩ := bnd f1
  obtain ⟨e4, rfl⟩ := lfts e2
  obtain ⟨rfl, rfl⟩ := purs f2
  obtain ⟨rfl, hz⟩ := szs e4
  exact ⟨ρ, F, st, ds, st', b, s, e1, fun vs H' F' b' r => ⟨by rw [r.length]; exact hz, fun p o hp ho => let ⟨b3, r3⟩ := b'.tupNew hp ho r; q _ _ _ b3 r3⟩⟩
theorem sf_lst {ms : Ev → M (List PyData)} (h : SA X es ms) : SF X (.List es pos) (mLst ms) := fun g H0 F0 => (pe_lst (h g H0 F0)).imp fun σ H Q ⟨ρ, F, st, k, st', b, s, e, q⟩ => by
  obtain ⟨ds, st1, e1, e⟩ := bnd e
  obtain ⟨e2, rfl⟩ := lfts e
  obtain ⟨rfl, hz⟩ := szs e2
  refine ⟨ρ, F, st, ds, st', b, s, e1, fun vs H' F' b' r => ⟨by rw [r.length]; exact hz, fun p hp => ?_⟩⟩
  exact q p vs _ F' (b'.newH hp) (none_of b' hp) upd_same (by
    cases z : F' p with
    | none => rfl
    | some o => have := b'.sub _ _ z; rw [hp] at this; cases this) r
def mDNil : Ev → M (List (PyData × PyData)) := fun _ => pure []
theorem sd_nil : SD X (.Dict [] [] pos) mDNil := fun g H0 F0 => pe_dnewK.imp fun σ H Q ⟨ρ, F, st, k, st', b, s, e, q⟩ p hp => by
  obtain ⟨rfl, rfl⟩ := purs e
  exact q p [] _ F (b.base.newH hp) hp upd_same (by
    cases z : F p with
    | none => rfl
    | some o => have := b.sub _ _ z; rw [hp] at this; cases this) .nil
end
end DL
end

section
set_option Elab.async false
set_option linter.all false
set_option maxRecDepth 100000
set_option maxHeartbeats 4000000
/-! DL3: judgements of statements by mirrors; loops. -/
namespace DL
open PySem L2

inductive Fl where
  | nx (ρ : Ev)
  | rt (d : PyData)
  | bk (ρ : Ev)
  | ct (ρ : Ev)
def Fin' (K : PySem.W.Frag) (g : Gh) (H0 F0 F : Hp) (st' : Pk) (D : Ends) : Fl → Prop
  | .nx ρ' => ∀ σ' H' F', Bs g H0 F0 H' F' st' → Same F F' → Slots K g H0 H' F' σ' ρ' → D.nx σ' H'
  | .bk ρ' => ∀ σ' H' F', Bs g H0 F0 H' F' st' → Same F F' → Slots K g H0 H' F' σ' ρ' → D.bk σ' H'
  | .ct ρ' => ∀ σ' H' F', Bs g H0 F0 H' F' st' → Same F F' → Slots K g H0 H' F' σ' ρ' → D.ct σ' H'
  | .rt d => ∀ v H' F', Bs g H0 F0 H' F' st' → Same F F' → Rp K F' v d → D.rt v H'
theorem Fin'.mono {K : PySem.W.Frag} {g : Gh} {H0 F0 F F1 : Hp} {st' : Pk} {D : Ends} (s : Same F F1) : ∀ {fl : Fl}, Fin' K g H0 F0 F st' D fl → Fin' K g H0 F0 F1 st' D fl
  | .nx _, h => fun σ' H' F' b p r => h σ' H' F' b (s.trans p) r
  | .bk _, h => fun σ' H' F' b p r => h σ' H' F' b (s.trans p) r
  | .ct _, h => fun σ' H' F' b p r => h σ' H' F' b (s.trans p) r
  | .rt _, h => fun σ' H' F' b p r => h σ' H' F' b (s.trans p) r
def tS (K : PySem.W.Frag) (g : Gh) (H0 F0 : Hp) (m : Ev → M Fl) : TS := fun D σ H => ∃ ρ F st fl st', Bs g H0 F0 H F st ∧ Slots K g H0 H F σ ρ ∧ m ρ st = some (fl, st') ∧ Fin' K g H0 F0 F st' D fl
/-- an item that may be a pair just made (zip, items ..) -/
def RpX (w : Bool) (K : PySem.W.Frag) (F : Hp) (v : V) (d : PyData) : Prop := Rp K F v d ∨ (w = true ∧ ∃ a xs ds, v = .ref a ∧ d = .tuple ds ∧ F a = some (.tup xs) ∧ RpA K F xs ds)
theorem RpX.tup {w : Bool} {K : PySem.W.Frag} {F : Hp} {v : V} {ds : List PyData} (r : RpX w K F v (.tuple ds)) : ∃ a xs, v = .ref a ∧ SqT K F a xs ∧ RpA K F xs ds := by
  rcases r with r | ⟨_, a, xs, ds', e1, e2, h, r⟩
  · cases r with
    | tup h1 h2 => exact ⟨_, _, rfl, h1.sq, h2⟩
  · cases e2; exact ⟨a, xs, e1, .inl (.inl h), r⟩
/-- a target's store -/
def tG (w : Bool) (K : PySem.W.Frag) (g : Gh) (H0 F0 : Hp) (ws : List Nat) (m : PyData → Ev → M Ev) : TG := fun v σ H Q => ∃ ρ F st d ρ' st', Bs g H0 F0 H F st ∧ Slots K g H0 H F σ ρ ∧ RpX w K F v d ∧ m d ρ st = some (ρ', st') ∧
  ∀ σ' H' F', Bs g H F H' F' st' → Slots K g H0 H' F' σ' ρ' → wipe σ' ws = wipe σ ws → Q σ' H'
def tGs (K : PySem.W.Frag) (g : Gh) (H0 F0 : Hp) (ws : List Nat) (m : List PyData → Ev → M Ev) : TGs := fun vs σ H Q => ∃ ρ F st ds ρ' st', Bs g H0 F0 H F st ∧ Slots K g H0 H F σ ρ ∧ RpA K F vs ds ∧ m ds ρ st = some (ρ', st') ∧
  ∀ σ' H' F', Bs g H F H' F' st' → Slots K g H0 H' F' σ' ρ' → wipe σ' ws = wipe σ ws → Q σ' H'
/-- what is walked: its items. Fz: the items stay as long as what is frozen stays -/
def ItOk (w : Bool) (K : PySem.W.Frag) (J : It) (ds : List PyData) (R : Gh → Hp → Hp → Prop) : Prop := ∀ (i : Nat) (g : Gh) (H0 F0 H2 F2 : Hp) (st2 : Pk), Bs g H0 F0 H2 F2 st2 → R g H2 F2 →
  (∀ d, ds[i]? = some d → J.go i H2 ∧ ∀ x H3, J.yld i H2 x H3 → ∃ F3, Bs g H2 F2 H3 F3 st2 ∧ RpX w K F3 x d) ∧ (ds.length ≤ i → J.stop i H2)
def tI (w : Bool) (K : PySem.W.Frag) (g : Gh) (H0 F0 : Hp) (m : Ev → M (List PyData)) : TI := fun σ H R => ∃ ρ F st ds st', Bs g H0 F0 H F st ∧ Slots K g H0 H F σ ρ ∧ m ρ st = some (ds, st') ∧
  ∀ J H' F', Bs g H F H' F' st' → ItOk w K J ds (fun _ _ F2 => Same F' F2) → R J H'
/-- .. as long as all stays but the source -/
def tJ (w : Bool) (K : PySem.W.Frag) (g : Gh) (H0 F0 : Hp) (m : Ev → M (List PyData)) : TI := fun σ H R => ∃ ρ F st ds st', Bs g H0 F0 H F st ∧ Slots K g H0 H F σ ρ ∧ m ρ st = some (ds, st') ∧
  ∀ J H' F', Bs g H F H' F' st' → ItOk w K J ds (fun g2 H2 F2 => g2 = g ∧ Stp g H' F' H2 F2) → R J H'

def SS (X : Cx) (s : Stmt) (m : Ev → M Fl) : Prop := ∀ g H0 F0, PS X s (tS X.K g H0 F0 m)
def SSs (X : Cx) (s : List Stmt) (m : Ev → M Fl) : Prop := ∀ g H0 F0, PSs X s (tS X.K g H0 F0 m)
def SG (w : Bool) (X : Cx) (ws : List Nat) (e : Expr) (m : PyData → Ev → M Ev) : Prop := ∀ g H0 F0, PG X e (tG w X.K g H0 F0 ws m)
def SGs (X : Cx) (ws : List Nat) (e : List Expr) (m : List PyData → Ev → M Ev) : Prop := ∀ g H0 F0, PGs X e (tGs X.K g H0 F0 ws m)
def SI (w : Bool) (X : Cx) (tg e : Expr) (m : Ev → M (List PyData)) : Prop := ∀ g H0 F0, PI X tg e (tI w X.K g H0 F0 m)
def SJ (w : Bool) (X : Cx) (tg e : Expr) (m : Ev → M (List PyData)) : Prop := ∀ g H0 F0, PI X tg e (tJ w X.K g H0 F0 m)

theorem _root_.L2.PS.imp {X : Cx} {s : Stmt} {t t' : TS} (h : PS X s t) (hi : ∀ D σ H, t' D σ H → t D σ H) : PS X s t' := ⟨fun pins s σ H D I q => h.run pins s σ H D I (hi _ _ _ q)⟩
theorem _root_.L2.PSs.imp {X : Cx} {s : List Stmt} {t t' : TS} (h : PSs X s t) (hi : ∀ D σ H, t' D σ H → t D σ H) : PSs X s t' := ⟨fun pins s σ H D I q => h.run pins s σ H D I (hi _ _ _ q)⟩
theorem _root_.L2.PG.imp {X : Cx} {s : Expr} {t t' : TG} (h : PG X s t) (hi : ∀ v σ H Q, t' v σ H Q → t v σ H Q) : PG X s t' := ⟨fun pins s σ H v u Q I r q => h.run pins s σ H v u Q I r (hi _ _ _ _ q)⟩
theorem _root_.L2.PGs.imp {X : Cx} {s : List Expr} {t t' : TGs} (h : PGs X s t) (hi : ∀ v σ H Q, t' v σ H Q → t v σ H Q) : PGs X s t' := ⟨fun pins s σ H v u Q I r q => h.run pins s σ H v u Q I r (hi _ _ _ _ q)⟩
theorem _root_.L2.PI.imp {X : Cx} {tg e : Expr} {t t' : TI} (h : PI X tg e t) (hi : ∀ σ H R, t' σ H R → t σ H R) : PI X tg e t' := ⟨fun pins s σ H R I q => h.run pins s σ H R I (hi _ _ _ q)⟩

section
variable {X : Cx} {w : Bool} {ws : List Nat} {e a b c tg : Expr} {es : List Expr} {m ma mb mc : Ev → M PyData} {pos : Pos} {s : Stmt} {rest body orelse : List Stmt} {m1 m2 : Ev → M Fl}

theorem wipe_get (σ : St) : ∀ (vs : List Nat) (j : Nat), (wipe σ vs)[j]? = if j ∈ vs then σ[j]?.map (fun _ => none) else σ[j]?
  | [], j => by simp [wipe]
  | v :: vs, j => by
    have ih := wipe_get σ vs j
    unfold wipe
    rw [List.getElem?_set]
    by_cases h : v = j
    · subst h
      rw [if_pos rfl, if_pos (List.mem_cons_self ..), wipe_length]
      by_cases hl : v < σ.length
      · rw [if_pos hl, List.getElem?_eq_getElem hl]; rfl
      · rw [if_neg hl, List.getElem?_eq_none (by omega)]; rfl
    · rw [if_neg h, ih]
      have e : (j ∈ v :: vs) ↔ j ∈ vs := by
        rw [List.mem_cons]
        exact ⟨fun z => z.elim (fun z => absurd z.symm h) id, .inr⟩
      by_cases hm : j ∈ vs
      · rw [if_pos hm, if_pos (e.mpr hm)]
      · rw [if_neg hm, if_neg (fun z => hm (e.mp z))]
theorem wipe_set {σ : St} {i : Nat} {x : Option V} {vs : List Nat} (h : i ∈ vs) : wipe (σ.set i x) vs = wipe σ vs := by
  refine List.ext_getElem? fun j => ?_
  rw [wipe_get, wipe_get]
  by_cases hm : j ∈ vs
  · rw [if_pos hm, if_pos hm, List.getElem?_set]
    by_cases e : i = j
    · subst e
      rw [if_pos rfl]
      by_cases hl : i < σ.length
      · rw [if_pos hl, List.getElem?_eq_getElem hl]; rfl
      · rw [if_neg hl, List.getElem?_eq_none (by omega)]
    · rw [if_neg e]
  · rw [if_neg hm, if_neg hm, List.getElem?_set_ne]
    rintro rfl
    exact hm h

/-! ### blocks -/
def mPass : Ev → M Fl := fun ρ => pure (.nx ρ)
def mFail {α : Type} : Ev → M α := fun _ => lft none
def mSeq (m1 m2 : Ev → M Fl) : Ev → M Fl := fun ρ => do
  match ← m1 ρ with
  | .nx ρ' => m2 ρ'
  | fl => pure fl
theorem sss_nil : SSs X [] mPass := fun g H0 F0 => pss_nil.imp fun D σ H ⟨ρ, F, st, fl, st', b, s, e, q⟩ => by
  obtain ⟨rfl, rfl⟩ := purs e
  exact q σ H F b (.refl _) s
theorem sss_one (h : SS X s m1) : SSs X [s] m1 := fun g H0 F0 => pss_one (h g H0 F0)
theorem sss_cons (h1 : SS X s m1) (h2 : SSs X rest m2) : SSs X (s :: rest) (mSeq m1 m2) := fun g H0 F0 => (pss_cons (h1 g H0 F0) (h2 g H0 F0)).imp fun D σ H ⟨ρ, F, st, fl, st', b, sl, e, q⟩ => by
  obtain ⟨fl1, st1, e1, e2⟩ := bnd e
  refine ⟨ρ, F, st, fl1, st1, b, sl, e1, ?_⟩
  cases fl1 with
  | nx ρ' => exact fun σ' H' F' b' p s' => ⟨ρ', F', st1, fl, st', b', s', e2, q.mono p⟩
  | rt d => obtain ⟨rfl, rfl⟩ := purs e2; exact q
  | bk ρ' => obtain ⟨rfl, rfl⟩ := purs e2; exact q
  | ct ρ' => obtain ⟨rfl, rfl⟩ := purs e2; exact q
/-- code that is never come to -/
theorem ss_fail : SS X s mFail := fun g H0 F0 => ps_never.imp fun D σ H ⟨ρ, F, st, fl, st', b, sl, e, q⟩ => by cases e
theorem sss_fail : SSs X rest mFail := fun g H0 F0 => pss_never.imp fun D σ H ⟨ρ, F, st, fl, st', b, sl, e, q⟩ => by cases e
theorem ss_pass : SS X (.Pass pos) mPass := fun g H0 F0 => ps_pass.imp fun D σ H ⟨ρ, F, st, fl, st', b, sl, e, q⟩ => by
  obtain ⟨rfl, rfl⟩ := purs e
  exact q σ H F b (.refl _) sl
def mBrk : Ev → M Fl := fun ρ => pure (.bk ρ)
def mCnt : Ev → M Fl := fun ρ => pure (.ct ρ)
theorem ss_break : SS X (.Break pos) mBrk := fun g H0 F0 => ps_break.imp fun D σ H ⟨ρ, F, st, fl, st', b, sl, e, q⟩ => by
  obtain ⟨rfl, rfl⟩ := purs e
  exact q σ H F b (.refl _) sl
theorem ss_continue : SS X (.Continue pos) mCnt := fun g H0 F0 => ps_continue.imp fun D σ H ⟨ρ, F, st, fl, st', b, sl, e, q⟩ => by
  obtain ⟨rfl, rfl⟩ := purs e
  exact q σ H F b (.refl _) sl
def mDrop (m : Ev → M PyData) : Ev → M Fl := fun ρ => do let _ ← m ρ; pure (.nx ρ)
theorem ss_expr (he : SB X e m) (hs : swapsWith e none pos.line X.env = pure false := by rfl) : SS X (.Expr e pos) (mDrop m) := fun g H0 F0 => (ps_expr (he g H0 F0) hs).imp fun D σ H ⟨ρ, F, st, fl, st', b, sl, e, q⟩ => by
  obtain ⟨d, st1, e1, e2⟩ := bnd e
  obtain ⟨rfl, rfl⟩ := purs e2
  exact ⟨ρ, F, st, d, st', b, sl, e1, fun v H' F' b' r => q σ H' F' (b.trans b') b'.stp.fr (sl.step b'.stp)⟩
def mRet (m : Ev → M PyData) : Ev → M Fl := fun ρ => do let d ← m ρ; pure (.rt d)
theorem ss_ret (he : SE X e m) : SS X (.Return (some e) pos) (mRet m) := fun g H0 F0 => (ps_ret (he g H0 F0)).imp fun D σ H ⟨ρ, F, st, fl, st', b, sl, e, q⟩ => by
  obtain ⟨d, st1, e1, e2⟩ := bnd e
  obtain ⟨rfl, rfl⟩ := purs e2
  exact ⟨ρ, F, st, d, st', b, sl, e1, fun v H' F' b' r => q v H' F' (b.trans b') b'.stp.fr r⟩
def mRetN : Ev → M Fl := fun ρ => pure (.rt .none)
theorem ss_retN : SS X (.Return none pos) mRetN := fun g H0 F0 => ps_retN.imp fun D σ H ⟨ρ, F, st, fl, st', b, sl, e, q⟩ => by
  obtain ⟨rfl, rfl⟩ := purs e
  exact q .non H F b (.refl _) .non
def mIfS (c : Ev → M Bool) (m1 m2 : Ev → M Fl) : Ev → M Fl := fun ρ => do if (← c ρ) then m1 ρ else m2 ρ
theorem ss_if {mt : Ev → M Bool} (hc : STs X c mt) (ha : SSs X body m1) (hb : SSs X orelse m2) : SS X (.If c body orelse pos) (mIfS mt m1 m2) := fun g H0 F0 =>
  (ps_if (hc g H0 F0) (ha g H0 F0) (hb g H0 F0)).imp fun D σ H ⟨ρ, F, st, fl, st', b, sl, e, q⟩ => by
  obtain ⟨k, st1, e1, e2⟩ := bnd e
  refine ⟨ρ, F, st, k, st1, b, sl, e1, fun H' F' b' => ?_⟩
  cases k with
  | true => exact ⟨ρ, F', st1, fl, st', b.trans b', sl.step b'.stp, e2, q.mono b'.stp.fr⟩
  | false => exact ⟨ρ, F', st1, fl, st', b.trans b', sl.step b'.stp, e2, q.mono b'.stp.fr⟩

/-- an owned object of the i-th slot becomes data -/
def frzAt (i : Nat) (ρ : Ev) : Ev := match ρ[i]? with
  | some (.ol ds) => ρ.set i (.vl (.list ds))
  | some (.od kvs) => ρ.set i (.vl (.dict kvs))
  | _ => ρ
def mFz {α : Type} (i : Nat) (m : Ev → M α) : Ev → M α := fun ρ => m (frzAt i ρ)
theorem upd_self {H : Hp} {a : Addr} {o : HO} (h : H a = some o) : upd H a o = H := by
  funext b
  by_cases e : b = a
  · subst e; rw [upd_same, h]
  · rw [upd_ne e]
def FzOk (K : PySem.W.Frag) (g : Gh) (H0 F0 H F : Hp) (st : Pk) (σ : St) (ρ' : Ev) : Prop := ∃ F', Same F F' ∧ Bs g H0 F0 H F' st ∧ Slots K g H0 H F' σ ρ'
theorem frz_sim {K : PySem.W.Frag} {g : Gh} {H0 F0 H F : Hp} {st : Pk} {σ : St} {ρ : Ev} (i : Nat) (b : Bs g H0 F0 H F st) (sl : Slots K g H0 H F σ ρ) :
    FzOk K g H0 F0 H F st σ (frzAt i ρ) ∨ ∃ a ks, H a = some (.dK ks) ∧ ∀ od, FzOk K g H0 F0 (upd H a (.frz od (.dK ks))) F st σ (frzAt i ρ) := by
  have main : ∀ (s : Sl) (a : Addr) (o o' : HO) (d : PyData), ρ[i]? = some s → s.owned = true → σ[i]? = some (some (.ref a)) → H a = some o → F a = none → a ≠ g.a → a ≠ g.l → H0 a = none → (∀ F', Same F F' → F' a = some o' → Rp K F' (.ref a) d) →
      FzOk K g H0 F0 (upd H a o') F st σ (ρ.set i (.vl d)) := by
    intro s a o o' d hρ ho hσ hH hF n1 n2 n3 hr
    refine ⟨upd F a o', Same.updN hF, ⟨fun c u h => ?_, ?_, ?_, ?_, ?_, b.ne, b.ok, ⟨b.stp.fr.trans (Same.updN hF), fun c u h => ?_, fun c u h m1 m2 => ?_, fun c h => ?_⟩⟩, ?_⟩
    · by_cases e : c = a
      · subst e; rw [upd_same] at h ⊢; exact h
      · rw [upd_ne e] at h ⊢; exact b.sub c u h
    · rw [upd_ne (Ne.symm n1)]; exact b.sa
    · rw [upd_ne (Ne.symm n2)]; exact b.sl
    · rw [upd_ne (Ne.symm n1)]; exact b.na
    · rw [upd_ne (Ne.symm n2)]; exact b.nl
    · by_cases e : c = a
      · subst e; exact .inr n3
      · rw [upd_ne e] at h; exact b.stp.nw c u h
    · rw [upd_ne (ne_of_none h n3)]; exact b.stp.kp c u h m1 m2
    · by_cases e : c = a
      · subst e; exact n3
      · rw [upd_ne e] at h; exact b.stp.gr c h
    · have key : ∀ (j : Nat) (t : Sl) (x : Option V), j ≠ i → ρ[j]? = some t → σ[j]? = some x → SlOk K g H0 (upd H a o') (upd F a o') t x := fun j t x hj e1 e2 =>
        (sl.at_ j t x e1 e2).freeze hF fun hot hx => sl.dis j i t s a hj e1 hρ hot ho (by rw [e2, hx]) hσ
      refine ⟨by rw [List.length_set]; exact sl.len, fun j t x e1 e2 => ?_, fun j k t u c hjk e1 e2 o1 o2 e3 e4 => ?_⟩
      · by_cases hj : j = i
        · subst hj
          have l1 : j < ρ.length := (List.getElem?_eq_some_iff.mp hρ).1
          rw [List.getElem?_set_self l1] at e1
          rw [hσ] at e2
          cases e1; cases e2
          exact ⟨_, rfl, hr _ (Same.updN hF) upd_same⟩
        · rw [List.getElem?_set_ne (Ne.symm hj)] at e1
          exact key j t x hj e1 e2
      · have l1 : i < ρ.length := (List.getElem?_eq_some_iff.mp hρ).1
        have nj : j ≠ i := fun z => by subst z; rw [List.getElem?_set_self l1] at e1; cases e1; cases o1
        have nk : k ≠ i := fun z => by subst z; rw [List.getElem?_set_self l1] at e2; cases e2; cases o2
        rw [List.getElem?_set_ne (Ne.symm nj)] at e1
        rw [List.getElem?_set_ne (Ne.symm nk)] at e2
        exact sl.dis j k t u c hjk e1 e2 o1 o2 e3 e4
  unfold frzAt
  cases hρ : ρ[i]? with
  | none => exact .inl ⟨F, .refl _, b, sl⟩
  | some s =>
    obtain ⟨x, hσ, k⟩ := sl.get hρ
    cases s with
    | no => exact .inl ⟨F, .refl _, b, sl⟩
    | vl d => exact .inl ⟨F, .refl _, b, sl⟩
    | src => exact .inl ⟨F, .refl _, b, sl⟩
    | scl => exact .inl ⟨F, .refl _, b, sl⟩
    | ol ds =>
      obtain ⟨a, vs, rfl, h, n, n1, n2, n3, r⟩ := k
      have z := main _ a _ _ _ hρ rfl hσ h n n1 n2 n3 fun F' s e => .lst e (RpA.mono s _ _ r)
      rw [upd_self h] at z
      exact .inl z
    | od ds =>
      obtain ⟨a, vs, rfl, h, n, n1, n2, n3, r⟩ := k
      exact .inr ⟨a, vs, h, fun od => main _ a _ _ _ hρ rfl hσ h n n1 n2 n3 fun F' s e => .dic e (RpK.mono s _ _ r)⟩
theorem ps_lockA {s : Stmt} {t : TS} (h : PS X s t) : PS X s (fun D σ H => t D σ H ∨ ∃ a ks, H a = some (.dK ks) ∧ ∀ od, t D σ (upd H a (.frz od (.dK ks)))) := ⟨fun pins s σ H D I hq => by
  rcases hq with hq | ⟨a, ks, hd, q⟩
  · exact h.run pins s σ H D I hq
  · obtain ⟨od, I2⟩ := I.lock hd True.intro
    exact h.run pins s σ _ D I2 (q od)⟩
theorem pss_lockA {s : List Stmt} {t : TS} (h : PSs X s t) : PSs X s (fun D σ H => t D σ H ∨ ∃ a ks, H a = some (.dK ks) ∧ ∀ od, t D σ (upd H a (.frz od (.dK ks)))) := ⟨fun pins s σ H D I hq => by
  rcases hq with hq | ⟨a, ks, hd, q⟩
  · exact h.run pins s σ H D I hq
  · obtain ⟨od, I2⟩ := I.lock hd True.intro
    exact h.run pins s σ _ D I2 (q od)⟩
theorem ss_fz (i : Nat) (h : SS X s m1) : SS X s (mFz i m1) := fun g H0 F0 => (ps_lockA (h g H0 F0)).imp fun D σ H ⟨ρ, F, st, fl, st', b, sl, e, q⟩ => by
  rcases frz_sim i b sl with ⟨F', p, b', sl'⟩ | ⟨a, ks, hd, z⟩
  · exact .inl ⟨frzAt i ρ, F', st, fl, st', b', sl', e, q.mono p⟩
  · exact .inr ⟨a, ks, hd, fun od => let ⟨F', p, b', sl'⟩ := z od; ⟨frzAt i ρ, F', st, fl, st', b', sl', e, q.mono p⟩⟩
theorem sss_fz (i : Nat) (h : SSs X rest m1) : SSs X rest (mFz i m1) := fun g H0 F0 => (pss_lockA (h g H0 F0)).imp fun D σ H ⟨ρ, F, st, fl, st', b, sl, e, q⟩ => by
  rcases frz_sim i b sl with ⟨F', p, b', sl'⟩ | ⟨a, ks, hd, z⟩
  · exact .inl ⟨frzAt i ρ, F', st, fl, st', b', sl', e, q.mono p⟩
  · exact .inr ⟨a, ks, hd, fun od => let ⟨F', p, b', sl'⟩ := z od; ⟨frzAt i ρ, F', st, fl, st', b', sl', e, q.mono p⟩⟩

/-! ### stores -/
def mSet (i : Nat) (m : Ev → M PyData) : Ev → M Fl := fun ρ => do let d ← m ρ; pure (.nx (ρ.set i (.vl d)))
def mSetF (i : Nat) (m : Ev → M (List PyData)) : Ev → M Fl := fun ρ => do let ds ← m ρ; pure (.nx (ρ.set i (.ol ds)))
def mSetD (i : Nat) (m : Ev → M (List (PyData × PyData))) : Ev → M Fl := fun ρ => do let ds ← m ρ; pure (.nx (ρ.set i (.od ds)))
theorem fresh_ol {K : PySem.W.Frag} {g : Gh} {H0 F0 H F H' F' : Hp} {st st' : Pk} {a : Addr} {vs : List V} {ds : List PyData} (b : Bs g H0 F0 H F st) (b' : Bs g H F H' F' st') (h1 : H a = none) (h2 : H' a = some (.lst vs)) (h3 : F' a = none) (r : RpA K F' vs ds) : SlOk K g H0 H' F' (.ol ds) (some (.ref a)) :=
  ⟨a, vs, rfl, h2, h3, (fun z => by rw [z, b.sa] at h1; cases h1), (fun z => by rw [z, b.sl] at h1; cases h1), b.stp.gr a h1, r⟩
theorem fresh_od {K : PySem.W.Frag} {g : Gh} {H0 F0 H F H' F' : Hp} {st st' : Pk} {a : Addr} {vs : List (Key × V)} {ds : List (PyData × PyData)} (b : Bs g H0 F0 H F st) (b' : Bs g H F H' F' st') (h1 : H a = none) (h2 : H' a = some (.dK vs)) (h3 : F' a = none) (r : RpK K F' vs ds) : SlOk K g H0 H' F' (.od ds) (some (.ref a)) :=
  ⟨a, vs, rfl, h2, h3, (fun z => by rw [z, b.sa] at h1; cases h1), (fun z => by rw [z, b.sl] at h1; cases h1), b.stp.gr a h1, r⟩
theorem ss_set {i : Nat} {x : Str} {pos' : Pos} (hN : X.N.Nodup) (he : SE X e m) (hi : X.N[i]? = some x := by rfl) (hx : Loc X.env.scope x := by first | exact Or.inl rfl | exact Or.inr rfl) (hs : swapsWith e (some (.Name x pos')) pos.line X.env = pure false := by rfl)
    (hf : X.fn x = true ∨ X.env.scope.names.lookup x = some .local := by first | exact .inl rfl | exact .inr rfl) : SS X (.Assign [.Name x pos'] e pos) (mSet i m) := fun g H0 F0 => (ps_set hN hi hx (he g H0 F0) hs hf).imp fun D σ H ⟨ρ, F, st, fl, st', b, sl, e, q⟩ => by
  obtain ⟨d, st1, e1, e2⟩ := bnd e
  obtain ⟨rfl, rfl⟩ := purs e2
  exact ⟨ρ, F, st, d, st', b, sl, e1, fun v H' F' b' r => q _ H' F' (b.trans b') b'.stp.fr ((sl.step b'.stp).put ⟨v, rfl, r⟩ rfl)⟩
theorem ss_setF {i : Nat} {x : Str} {pos' : Pos} {m : Ev → M (List PyData)} (hN : X.N.Nodup) (he : SF X e m) (hi : X.N[i]? = some x := by rfl) (hx : Loc X.env.scope x := by first | exact Or.inl rfl | exact Or.inr rfl) (hs : swapsWith e (some (.Name x pos')) pos.line X.env = pure false := by rfl)
    (hf : X.fn x = true ∨ X.env.scope.names.lookup x = some .local := by first | exact .inl rfl | exact .inr rfl) : SS X (.Assign [.Name x pos'] e pos) (mSetF i m) := fun g H0 F0 => (ps_set hN hi hx (he g H0 F0) hs hf).imp fun D σ H ⟨ρ, F, st, fl, st', b, sl, e, q⟩ => by
  obtain ⟨d, st1, e1, e2⟩ := bnd e
  obtain ⟨rfl, rfl⟩ := purs e2
  exact ⟨ρ, F, st, d, st', b, sl, e1, fun a vs H' F' b' h1 h2 h3 r => q _ H' F' (b.trans b') b'.stp.fr (sl.fresh (fresh_ol b b' h1 h2 h3 r) b'.stp h1)⟩
theorem ss_setD {i : Nat} {x : Str} {pos' : Pos} {m : Ev → M (List (PyData × PyData))} (hN : X.N.Nodup) (he : SD X e m) (hi : X.N[i]? = some x := by rfl) (hx : Loc X.env.scope x := by first | exact Or.inl rfl | exact Or.inr rfl) (hs : swapsWith e (some (.Name x pos')) pos.line X.env = pure false := by rfl)
    (hf : X.fn x = true ∨ X.env.scope.names.lookup x = some .local := by first | exact .inl rfl | exact .inr rfl) : SS X (.Assign [.Name x pos'] e pos) (mSetD i m) := fun g H0 F0 => (ps_set hN hi hx (he g H0 F0) hs hf).imp fun D σ H ⟨ρ, F, st, fl, st', b, sl, e, q⟩ => by
  obtain ⟨d, st1, e1, e2⟩ := bnd e
  obtain ⟨rfl, rfl⟩ := purs e2
  exact ⟨ρ, F, st, d, st', b, sl, e1, fun a vs H' F' b' h1 h2 h3 r => q _ H' F' (b.trans b') b'.stp.fr (sl.fresh (fresh_od b b' h1 h2 h3 r) b'.stp h1)⟩

/-! ### targets -/
def gSet (i : Nat) : PyData → Ev → M Ev := fun d ρ => pure (ρ.set i (.vl d))
theorem sg_name {i : Nat} {x : Str} (hN : X.N.Nodup) (hw : i ∈ ws := by decide) (hi : X.N[i]? = some x := by rfl) (hx : Loc X.env.scope x := by first | exact Or.inl rfl | exact Or.inr rfl) (hf : X.fn x = true ∨ X.env.scope.names.lookup x = some .local := by first | exact .inl rfl | exact .inr rfl) : SG false X ws (.Name x pos) (gSet i) := fun g H0 F0 =>
  (pg_name hN hi hx hf).imp fun v σ H Q ⟨ρ, F, st, d, ρ', st', b, sl, r, e, q⟩ => by
  obtain ⟨rfl, rfl⟩ := purs e
  rcases r with r | ⟨z, _⟩
  · exact q _ H F b.base (sl.put ⟨v, rfl, r⟩ rfl) (wipe_set hw)
  · cases z
def gsNil : List PyData → Ev → M Ev := fun ds ρ => match ds with
  | [] => pure ρ
  | _ :: _ => lft none
def gsCons (m : PyData → Ev → M Ev) (ms : List PyData → Ev → M Ev) : List PyData → Ev → M Ev := fun ds ρ => match ds with
  | [] => lft none
  | d :: ds => do let ρ' ← m d ρ; ms ds ρ'
theorem sgs_nil : SGs X ws [] gsNil := fun g H0 F0 => pgs_nil.imp fun v σ H Q ⟨ρ, F, st, ds, ρ', st', b, sl, r, e, q⟩ => by
  cases r with
  | nil => obtain ⟨rfl, rfl⟩ := purs e; exact ⟨rfl, q _ H F b.base sl rfl⟩
  | cons _ _ => cases e
theorem sgs_cons {mg : PyData → Ev → M Ev} {ms : List PyData → Ev → M Ev} (h1 : SG false X ws e mg) (h2 : SGs X ws es ms) (hs : (assignEach (e :: es) X.env).map (·.2) = assign e X.env :: (assignEach es X.env).map (·.2) := by rfl) : SGs X ws (e :: es) (gsCons mg ms) := fun g H0 F0 =>
  (pgs_cons (h1 g H0 F0) (h2 g H0 F0) hs).imp fun v σ H Q ⟨ρ, F, st, ds, ρ', st', b, sl, r, e, q⟩ => by
  cases r with
  | nil => cases e
  | cons r1 r2 =>
    obtain ⟨ρ1, st1, e1, e2⟩ := bnd e
    exact ⟨_, _, rfl, ρ, F, st, _, ρ1, st1, b, sl, .inl r1, e1, fun σ1 H1 F1 b1 s1 w1 => ⟨ρ1, F1, st1, _, ρ', st', b.trans b1, s1, RpA.mono b1.stp.fr _ _ r2, e2, fun σ2 H2 F2 b2 s2 w2 => q σ2 H2 F2 (b1.trans b2) s2 (w2.trans w1)⟩⟩
/-- (a, b, ..) = a tuple of that length -/
def gTupD (n : Nat) (ms : List PyData → Ev → M Ev) : PyData → Ev → M Ev := fun d ρ => match d with
  | .tuple ds => if ds.length = n then ms ds ρ else lft none
  | _ => lft none
theorem sg_tup {k n : Nat} {ms : List PyData → Ev → M Ev} (hc : X.calm = true) (h : SGs X ws es ms) (hn : (assignEach es X.env).length = n := by rfl) (hst : (assignEach es X.env).findIdx? (·.1) = none := by rfl) : SG w X ws (.Tuple es k pos) (gTupD n ms) := fun g H0 F0 =>
  (pg_tup hc (h g H0 F0) hn hst).imp fun v σ H Q ⟨ρ, F, st, d, ρ', st', b, sl, r, e, q⟩ => by
  cases d with
  | tuple ds =>
    have e' : (if ds.length = n then ms ds ρ else lft none) st = some (ρ', st') := e
    by_cases hl : ds.length = n
    · rw [if_pos hl] at e'
      obtain ⟨a, xs, rfl, h1, h2⟩ := r.tup
      exact ⟨_, _, rfl, Same.sqT b.sub h1, by rw [h2.length]; exact hl, ρ, F, st, ds, ρ', st', b, sl, h2, e', q⟩
    · rw [if_neg hl] at e'; cases e'
  | none => cases e
  | bool _ => cases e
  | int _ => cases e
  | str _ => cases e
  | list _ => cases e
  | dict _ => cases e
/-- target = value -/
def mAsg (g : PyData → Ev → M Ev) (m : Ev → M PyData) : Ev → M Fl := fun ρ => do let d ← m ρ; let ρ' ← g d ρ; pure (.nx ρ')
theorem ss_asg {mg : PyData → Ev → M Ev} (he : SE X e m) (hg : SG false X ws tg mg) (hs : swapsWithSole [tg] e pos.line X.env = pure false := by rfl) (hw : swappedStores [tg] e X.env = pure none := by rfl)
    (h1 : (assignEach [tg] X.env).map (·.2) = [assign tg X.env] := by rfl) : SS X (.Assign [tg] e pos) (mAsg mg m) := fun g H0 F0 => (ps_asg (he g H0 F0) (hg g H0 F0) hs hw h1).imp fun D σ H ⟨ρ, F, st, fl, st', b, sl, e, q⟩ => by
  obtain ⟨d, st1, e1, e2⟩ := bnd e
  obtain ⟨ρ1, st2, e3, e4⟩ := bnd e2
  obtain ⟨rfl, rfl⟩ := purs e4
  exact ⟨ρ, F, st, d, st1, b, sl, e1, fun v H' F' b' r => ⟨ρ, F', st1, d, ρ1, st', b.trans b', sl.step b'.stp, .inl r, e3, fun σ2 H2 F2 b2 s2 _ => q σ2 H2 F2 ((b.trans b').trans b2) (b'.stp.fr.trans b2.stp.fr) s2⟩⟩

/-! ### while -/
def whileM : Nat → (Ev → M Bool) → (Ev → M Fl) → Ev → M Fl
  | 0, _, _, _ => lft none
  | n + 1, c, b, ρ => do
    if (← c ρ) then
      match ← b ρ with
      | .nx ρ' => whileM n c b ρ'
      | .ct ρ' => whileM n c b ρ'
      | .bk ρ' => pure (.nx ρ')
      | .rt d => pure (.rt d)
    else pure (.nx ρ)
theorem ss_while (n : Nat) {mt : Ev → M Bool} (hp : PassesOwn (model X.prog X.w) X.A X.env X.xe) (hc : STs X c mt) (hb : SSs X body m1) : SS X (.While c body [] pos) (whileM n mt m1) := fun g H0 F0 => (ps_while hp (hc g H0 F0) (hb g H0 F0)).imp fun D σ H ⟨ρ, F, st, fl, st', b, sl, e, q⟩ => by
  refine ⟨fun k σ H => ∃ ρ F1 st, Bs g H0 F0 H F1 st ∧ Same F F1 ∧ Slots X.K g H0 H F1 σ ρ ∧ whileM k mt m1 ρ st = some (fl, st'), ⟨n, ρ, F, st, b, .refl _, sl, e⟩, ?_⟩
  rintro k σ1 H1 ⟨ρ1, F1, st1, b1, p1, s1, e1⟩
  cases k with
  | zero => cases e1
  | succ k =>
    obtain ⟨kb, st2, e2, e3⟩ := bnd e1
    refine ⟨ρ1, F1, st1, kb, st2, b1, s1, e2, fun H2 F2 b2 => ?_⟩
    cases kb with
    | false =>
      obtain ⟨rfl, rfl⟩ := purs e3
      exact q σ1 H2 F2 (b1.trans b2) (p1.trans b2.stp.fr) (s1.step b2.stp)
    | true =>
      obtain ⟨fl1, st3, e4, e5⟩ := bnd e3
      refine ⟨fun σ' H' => ∃ ρ' F' st, Bs g H0 F0 H' F' st ∧ Same F F' ∧ Slots X.K g H0 H' F' σ' ρ' ∧ whileM k mt m1 ρ' st = some (fl, st'), fun σ' H' h => ⟨k, Nat.lt_succ_self k, h⟩, ρ1, F2, st2, fl1, st3, b1.trans b2, s1.step b2.stp, e4, ?_⟩
      cases fl1 with
      | nx ρ' => exact fun σ' H' F' b' p' s' => ⟨ρ', F', st3, b', (p1.trans b2.stp.fr).trans p', s', e5⟩
      | ct ρ' => exact fun σ' H' F' b' p' s' => ⟨ρ', F', st3, b', (p1.trans b2.stp.fr).trans p', s', e5⟩
      | bk ρ' =>
        obtain ⟨rfl, rfl⟩ := purs e5
        exact q.mono (p1.trans b2.stp.fr)
      | rt d =>
        obtain ⟨rfl, rfl⟩ := purs e5
        exact q.mono (p1.trans b2.stp.fr)

/-! ### for -/
def forM : List PyData → (PyData → Ev → M Fl) → Ev → M Fl
  | [], _, ρ => pure (.nx ρ)
  | d :: ds, f, ρ => do
    match ← f d ρ with
    | .nx ρ' => forM ds f ρ'
    | .ct ρ' => forM ds f ρ'
    | .bk ρ' => pure (.nx ρ')
    | .rt d => pure (.rt d)
def mFor (mi : Ev → M (List PyData)) (g : PyData → Ev → M Ev) (mb : Ev → M Fl) : Ev → M Fl := fun ρ => do let ds ← mi ρ; forM ds (fun d ρ => do let ρ' ← g d ρ; mb ρ') ρ
theorem ss_for {mi : Ev → M (List PyData)} {mg : PyData → Ev → M Ev} (hp : PassesOwn (model X.prog X.w) X.A X.env X.xe) (hc : X.calm = true) (hi : SI w X tg e mi) (hg : SG w X ws tg mg) (hb : SSs X body m1)
    (hs : ∀ x, foldedSetIterable e X.env x = pure x := by intro _; rfl) : SS X (.For tg e body [] pos) (mFor mi mg m1) := fun g H0 F0 => (ps_for hp hc (hi g H0 F0) (hg g H0 F0) (hb g H0 F0) hs).imp fun D σ H ⟨ρ, F, st, fl, st', b, sl, e, q⟩ => by
  obtain ⟨ds, st1, e1, e2⟩ := bnd e
  refine ⟨ρ, F, st, ds, st1, b, sl, e1, fun J H1 F1 b1 ok => ?_⟩
  refine ⟨fun i k σ H => k = ds.length - i ∧ ∃ ρ F2 st, Bs g H0 F0 H F2 st ∧ Same F1 F2 ∧ Slots X.K g H0 H F2 σ ρ ∧ forM (ds.drop i) (fun d ρ => do let ρ' ← mg d ρ; m1 ρ') ρ st = some (fl, st'),
    ⟨ds.length, by simp, ρ, F1, st1, b.trans b1, .refl _, sl.step b1.stp, by rw [List.drop_zero]; exact e2⟩, ?_⟩
  rintro i k σ2 H2 ⟨rfl, ρ2, F2, st2, b2, p2, s2, e3⟩
  obtain ⟨go, stop⟩ := ok i g H0 F0 H2 F2 st2 b2 p2
  by_cases hl : i < ds.length
  · have hd : ds[i]? = some ds[i] := List.getElem?_eq_getElem hl
    rw [List.drop_eq_getElem_cons hl] at e3
    obtain ⟨fl1, st3, e4, e5⟩ := bnd e3
    obtain ⟨ρ3, st4, e6, e7⟩ := bnd e4
    obtain ⟨hgo, hy⟩ := go _ hd
    refine .inr ⟨hgo, fun σ' H' => ∃ ρ' F' st, Bs g H0 F0 H' F' st ∧ Same F1 F' ∧ Slots X.K g H0 H' F' σ' ρ' ∧ forM (ds.drop (i + 1)) (fun d ρ => do let ρ' ← mg d ρ; m1 ρ') ρ' st = some (fl, st'), fun σ' H' h => ⟨ds.length - (i + 1), by omega, rfl, h⟩, fun x H3 y => ?_⟩
    obtain ⟨F3, b3, r3⟩ := hy x H3 y
    refine ⟨ρ2, F3, st2, _, ρ3, st4, b2.trans b3, s2.step b3.stp, r3, e6, fun σ4 H4 F4 b4 s4 _ => ⟨ρ3, F4, st4, fl1, st3, (b2.trans b3).trans b4, s4, e7, ?_⟩⟩
    have pp : Same F1 F4 := (p2.trans b3.stp.fr).trans b4.stp.fr
    cases fl1 with
    | nx ρ' => exact fun σ' H' F' b' p' s' => ⟨ρ', F', st3, b', pp.trans p', s', e5⟩
    | ct ρ' => exact fun σ' H' F' b' p' s' => ⟨ρ', F', st3, b', pp.trans p', s', e5⟩
    | bk ρ' =>
      obtain ⟨rfl, rfl⟩ := purs e5
      exact q.mono (b1.stp.fr.trans pp)
    | rt d =>
      obtain ⟨rfl, rfl⟩ := purs e5
      exact q.mono (b1.stp.fr.trans pp)
  · rw [List.drop_of_length_le (by omega)] at e3
    obtain ⟨rfl, rfl⟩ := purs e3
    exact .inl ⟨stop (by omega), q σ2 H2 F2 b2 (b1.stp.fr.trans p2) s2⟩

/-! ### what is walked -/
/-- a list or a tuple -/
def iSeq (K : PySem.W.Frag) (tl : TE) : TI := fun σ H R => tl σ H fun x H1 => ∃ a, x = .ref a ∧ (((∃ xs, SqL K H1 a xs) ∧ R (Itl K a) H1) ∨ ((∃ xs, SqT K H1 a xs) ∧ R (Itt K a) H1))
theorem pi_seq {l : Expr} {tl : TE} (hl : PE X l tl) : PI X tg l (iSeq X.K tl) := by
  refine ⟨fun pins s σ H R I h => ?_⟩
  refine thn (hl.run pins s σ H _ I h) fun v s1 ⟨x, H1, I1, r1, q1⟩ => ?_
  obtain ⟨a, e, q | q⟩ := q1
  · obtain ⟨⟨xs, hq⟩, q⟩ := q
    subst e
    cases r1
    obtain ⟨its, rv, p, hz⟩ := I1.list hq
    refine PySem.wpAny_pyIter_list p.isList ?_
    refine ⟨s1.heap.objs.size, [s1.heap.objs.size], _, _, H1, rfl, I1.kept (t' := s1.toks) fun b o e => Heap.get?_push_of_some _ e, turn_list a _, ⟨_, Heap.get?_push_size _ rfl, rfl, rfl⟩, fun b hb => ?_, q⟩
    have e : b = s1.heap.objs.size := by simpa using hb
    subst e
    exact I1.fpOk (Nat.le_refl _) (I1.hok.fresh (Nat.le_refl _))
  · obtain ⟨⟨xs, hq⟩, q⟩ := q
    subst e
    cases r1
    obtain ⟨its, rv, p, hz⟩ := I1.tuple hq
    refine PySem.wpAny_pyIter_tuple (show s1.heap.IsTuple a its.toArray from p) ?_
    refine ⟨s1.heap.objs.size, [s1.heap.objs.size], _, _, H1, rfl, I1.kept (t' := s1.toks) fun b o e => Heap.get?_push_of_some _ e, turn_tuple a _, ⟨_, Heap.get?_push_size _ rfl, rfl, rfl⟩, fun b hb => ?_, q⟩
    have e : b = s1.heap.objs.size := by simpa using hb
    subst e
    exact I1.fpOk (Nat.le_refl _) (I1.hok.fresh (Nat.le_refl _))
def seqD : PyData → Option (List PyData)
  | .list ds => some ds
  | .tuple ds => some ds
  | _ => none
def mSeqI (m : Ev → M PyData) : Ev → M (List PyData) := fun ρ => do let d ← m ρ; lft (seqD d)
theorem itl_ok {K : PySem.W.Frag} {a : Addr} {vs : List V} {ds : List PyData} {R : Gh → Hp → Hp → Prop} (h : ∀ g H F, R g H F → Same F H → H a = some (.lst vs) ∧ RpA K F vs ds) : ItOk w K (Itl K a) ds R := fun i g H0 F0 H2 F2 st2 b2 p => by
  obtain ⟨h1, h2⟩ := h g H2 F2 p b2.sub
  refine ⟨fun d hd => ?_, fun hl => ⟨vs, SqL.of h1, by rw [h2.length]; exact hl⟩⟩
  obtain ⟨v, e1, e2⟩ := h2.get hd
  refine ⟨⟨vs, v, SqL.of h1, e1⟩, fun x H3 y => ?_⟩
  obtain ⟨rfl, y⟩ := y
  have ex := y vs (SqL.of h1)
  rw [e1] at ex
  cases ex
  exact ⟨F2, b2.base, .inl e2⟩
theorem itt_ok {K : PySem.W.Frag} {a : Addr} {vs : List V} {ds : List PyData} {R : Gh → Hp → Hp → Prop} (h : ∀ g H F, R g H F → Same F H → SqT K H a vs ∧ RpA K F vs ds) : ItOk w K (Itt K a) ds R := fun i g H0 F0 H2 F2 st2 b2 p => by
  obtain ⟨h1, h2⟩ := h g H2 F2 p b2.sub
  refine ⟨fun d hd => ?_, fun hl => ⟨vs, h1, by rw [h2.length]; exact hl⟩⟩
  obtain ⟨v, e1, e2⟩ := h2.get hd
  refine ⟨⟨vs, v, h1, e1⟩, fun x H3 y => ?_⟩
  obtain ⟨rfl, y⟩ := y
  have ex := y vs h1
  rw [e1] at ex
  cases ex
  exact ⟨F2, b2.base, .inl e2⟩
theorem si_seq (h : SE X e m) : SI w X tg e (mSeqI m) := fun g H0 F0 => (pi_seq (h g H0 F0)).imp fun σ H R ⟨ρ, F, st, ds, st', b, sl, e, q⟩ => by
  obtain ⟨d, st1, e1, e2⟩ := bnd e
  obtain ⟨e3, rfl⟩ := lfts e2
  refine ⟨ρ, F, st, d, st', b, sl, e1, fun v H' F' b' r => ?_⟩
  cases d with
  | list ds' =>
    cases e3
    cases r with
    | lst h1 h2 => exact ⟨_, rfl, .inl ⟨⟨_, SqL.of (b'.sub _ _ h1)⟩, q _ H' F' b' (itl_ok fun _ H F p s => ⟨s _ _ (p _ _ h1), RpA.mono p _ _ h2⟩)⟩⟩
  | tuple ds' =>
    cases e3
    cases r with
    | tup h1 h2 => exact ⟨_, rfl, .inr ⟨⟨_, Same.sqT b'.sub h1.sq⟩, q _ H' F' b' (itt_ok fun _ H F p s => ⟨Same.sqT s (Same.sqT p h1.sq), RpA.mono p _ _ h2⟩)⟩⟩
  | none => cases e3
  | bool _ => cases e3
  | int _ => cases e3
  | str _ => cases e3
  | dict _ => cases e3
theorem sj_seq (h : SB X e m) : SJ w X tg e (mSeqI m) := fun g H0 F0 => (pi_seq (h g H0 F0)).imp fun σ H R ⟨ρ, F, st, ds, st', b, sl, e, q⟩ => by
  obtain ⟨d, st1, e1, e2⟩ := bnd e
  obtain ⟨e3, rfl⟩ := lfts e2
  refine ⟨ρ, F, st, d, st', b, sl, e1, fun v H' F' b' r => ?_⟩
  cases d with
  | list ds' =>
    cases e3
    rcases r with r | ⟨a, vs, ds', rfl, e2, h, n, n1, n2, r⟩ | ⟨a, ks, kvs, e1, e2, h, n, n1, n2, r⟩
    · cases r with
      | lst h1 h2 => exact ⟨_, rfl, .inl ⟨⟨_, SqL.of (b'.sub _ _ h1)⟩, q _ H' F' b' (itl_ok fun _ H F p s => ⟨s _ _ (p.2.fr _ _ h1), RpA.mono p.2.fr _ _ h2⟩)⟩⟩
    · cases e2
      exact ⟨_, rfl, .inl ⟨⟨_, SqL.of h⟩, q _ H' F' b' (itl_ok fun _ H F p s => ⟨p.2.kp _ _ h n1 n2, RpA.mono p.2.fr _ _ r⟩)⟩⟩
    · cases e2
  | tuple ds' =>
    cases e3
    obtain ⟨a, vs, rfl, h1, h2, h3⟩ := r.tuple b'.sub
    exact ⟨_, rfl, .inr ⟨⟨_, h2⟩, q _ H' F' b' (itt_ok fun _ H F p s => ⟨Same.sqT s (Same.sqT p.2.fr h1.sq), RpA.mono p.2.fr _ _ h3⟩)⟩⟩
  | none => cases e3
  | bool _ => cases e3
  | int _ => cases e3
  | str _ => cases e3
  | dict _ => cases e3
theorem SI.toJ {mi : Ev → M (List PyData)} (h : SI w X tg e mi) : SJ w X tg e mi := fun g H0 F0 => (h g H0 F0).imp fun σ H R ⟨ρ, F, st, ds, st', b, sl, e, q⟩ => ⟨ρ, F, st, ds, st', b, sl, e, fun J H' F' b' ok => q J H' F' b' fun i g2 H0 F0 H2 F2 st2 b2 p => ok i g2 H0 F0 H2 F2 st2 b2 p.2.fr⟩
/-- a range -/
def rngD (lo : Int) (n : Nat) : List PyData := (List.range n).map fun i => .int (lo + (i : Nat))
theorem itr_ok {K : PySem.W.Frag} {lo : Int} {n : Nat} {R : Gh → Hp → Hp → Prop} : ItOk w K (Itr lo n) (rngD lo n) R := fun i g H0 F0 H2 F2 st2 b2 p => by
  refine ⟨fun d hd => ?_, fun hl => (show n ≤ i by simpa [rngD] using hl)⟩
  have hi : i < n := by simpa [rngD] using (List.getElem?_eq_some_iff.mp hd).1
  refine ⟨hi, fun x H3 y => ?_⟩
  obtain ⟨rfl, rfl⟩ := y
  have e : d = .int (lo + i) := by simp [rngD, hi] at hd; exact hd.symm
  subst e
  exact ⟨F2, b2.base, .inl (.int _)⟩
def rng1D : List PyData → Option (List PyData)
  | [.int j] => if -(2 ^ 62) ≤ j ∧ j < 2 ^ 62 then some (rngD 0 j.toNat) else none
  | _ => none
def rng2D : List PyData → Option (List PyData)
  | [.int i, .int j] => if -(2 ^ 62) ≤ i ∧ i < 2 ^ 62 ∧ -(2 ^ 62) ≤ j ∧ j < 2 ^ 62 then some (rngD i (j - i).toNat) else none
  | _ => none
def mRng (φ : List PyData → Option (List PyData)) (ms : Ev → M (List PyData)) : Ev → M (List PyData) := fun ρ => do let ds ← ms ρ; lft (φ ds)
theorem si_range1 {p : Pos} {ms : Ev → M (List PyData)} (hm : X.mg "range" = none) (ha : SA X [a] ms) (hg : Gl X "range" := by rfl) (hs : starEach [a] X.env = [(false, eval a X.env)] := by rfl) : SI w X tg (.Call (.Name "range" p) [a] [] pos) (mRng rng1D ms) := fun g H0 F0 =>
  (pi_range1 hg hm (ha g H0 F0) hs).imp fun σ H R ⟨ρ, F, st, ds, st', b, sl, e, q⟩ => by
  obtain ⟨d, st1, e1, e2⟩ := bnd e
  obtain ⟨e3, rfl⟩ := lfts e2
  refine ⟨ρ, F, st, d, st', b, sl, e1, fun vs H' F' b' r => ?_⟩
  cases r with
  | nil => cases e3
  | cons r1 r2 =>
    cases r2 with
    | cons _ _ => cases r1 <;> cases e3
    | nil =>
      cases r1 <;> first | cases e3 | skip
      rename_i j
      have e4 : (if -(2 ^ 62) ≤ j ∧ j < 2 ^ 62 then some (rngD 0 j.toNat) else none) = some ds := e3
      by_cases hj : -(2 ^ 62) ≤ j ∧ j < 2 ^ 62
      · rw [if_pos hj] at e4
        cases e4
        exact ⟨j, rfl, hj.1, hj.2, q _ H' F' b' itr_ok⟩
      · rw [if_neg hj] at e4; cases e4
theorem si_range2 {p : Pos} {ms : Ev → M (List PyData)} (hm : X.mg "range" = none) (ha : SA X [a, b] ms) (hg : Gl X "range" := by rfl) (hs : starEach [a, b] X.env = [(false, eval a X.env), (false, eval b X.env)] := by rfl) (hs2 : starEach [b] X.env = [(false, eval b X.env)] := by rfl) :
    SI w X tg (.Call (.Name "range" p) [a, b] [] pos) (mRng rng2D ms) := fun g H0 F0 =>
  (pi_range2 hg hm (ha g H0 F0) hs hs2).imp fun σ H R ⟨ρ, F, st, ds, st', b, sl, e, q⟩ => by
  obtain ⟨d, st1, e1, e2⟩ := bnd e
  obtain ⟨e3, rfl⟩ := lfts e2
  refine ⟨ρ, F, st, d, st', b, sl, e1, fun vs H' F' b' r => ?_⟩
  cases r with
  | nil => cases e3
  | cons r1 r2 =>
    cases r2 with
    | nil => cases r1 <;> cases e3
    | cons r3 r4 =>
      cases r4 with
      | cons _ _ => cases r1 <;> cases r3 <;> cases e3
      | nil =>
        cases r1 <;> first | cases e3 | skip
        cases r3 <;> first | cases e3 | skip
        rename_i i j
        have e4 : (if -(2 ^ 62) ≤ i ∧ i < 2 ^ 62 ∧ -(2 ^ 62) ≤ j ∧ j < 2 ^ 62 then some (rngD i (j - i).toNat) else none) = some ds := e3
        by_cases hj : -(2 ^ 62) ≤ i ∧ i < 2 ^ 62 ∧ -(2 ^ 62) ≤ j ∧ j < 2 ^ 62
        · rw [if_pos hj] at e4
          cases e4
          exact ⟨i, j, rfl, hj, q _ H' F' b' itr_ok⟩
        · rw [if_neg hj] at e4; cases e4
end
end DL
end

section
set_option Elab.async false
set_option linter.all false
set_option maxRecDepth 100000
set_option maxHeartbeats 4000000
/-! DL4: comprehensions, subscripts, calls of built-ins, changes of owned lists and dicts. -/
namespace DL
open PySem L2

/-! ### forgetting a block's names -/
def wipeE (ρ : Ev) : List Nat → Ev
  | [] => ρ
  | v :: vs => (wipeE ρ vs).set v .no
theorem wipeE_length (ρ : Ev) : ∀ vs : List Nat, (wipeE ρ vs).length = ρ.length
  | [] => rfl
  | v :: vs => by unfold wipeE; rw [List.length_set, wipeE_length ρ vs]
theorem wipeE_get (ρ : Ev) : ∀ (vs : List Nat) (j : Nat), (wipeE ρ vs)[j]? = if j ∈ vs then ρ[j]?.map (fun _ => .no) else ρ[j]?
  | [], j => by simp [wipeE]
  | v :: vs, j => by
    have ih := wipeE_get ρ vs j
    unfold wipeE
    rw [List.getElem?_set]
    by_cases h : v = j
    · subst h
      rw [if_pos rfl, if_pos (List.mem_cons_self ..), wipeE_length]
      by_cases hl : v < ρ.length
      · rw [if_pos hl, List.getElem?_eq_getElem hl]; rfl
      · rw [if_neg hl, List.getElem?_eq_none (by omega)]; rfl
    · rw [if_neg h, ih]
      have e : (j ∈ v :: vs) ↔ j ∈ vs := by
        rw [List.mem_cons]
        exact ⟨fun z => z.elim (fun z => absurd z.symm h) id, .inr⟩
      by_cases hm : j ∈ vs
      · rw [if_pos hm, if_pos (e.mpr hm)]
      · rw [if_neg hm, if_neg (fun z => hm (e.mp z))]
theorem Slots.wiped {K : PySem.W.Frag} {g : Gh} {H0 H F : Hp} {σ : St} {ρ : Ev} (s : Slots K g H0 H F σ ρ) (vs : List Nat) : Slots K g H0 H F (wipe σ vs) (wipeE ρ vs) where
  len := by rw [wipe_length, wipeE_length]; exact s.len
  at_ := fun i t x e1 e2 => by
    rw [wipeE_get] at e1
    rw [wipe_get] at e2
    by_cases h : i ∈ vs
    · rw [if_pos h] at e1
      obtain ⟨_, _, rfl⟩ := Option.map_eq_some_iff.mp e1
      exact True.intro
    · rw [if_neg h] at e1 e2
      exact s.at_ i t x e1 e2
  dis := fun i j t u a hij e1 e2 o1 o2 e3 e4 => by
    rw [wipeE_get] at e1 e2
    rw [wipe_get] at e3 e4
    by_cases h : i ∈ vs
    · rw [if_pos h] at e1
      obtain ⟨_, _, rfl⟩ := Option.map_eq_some_iff.mp e1
      cases o1
    · by_cases h' : j ∈ vs
      · rw [if_pos h'] at e2
        obtain ⟨_, _, rfl⟩ := Option.map_eq_some_iff.mp e2
        cases o2
      · rw [if_neg h] at e1 e3
        rw [if_neg h'] at e2 e4
        exact s.dis i j t u a hij e1 e2 o1 o2 e3 e4

/-! ### an object that is owned is changed -/
section
variable {K : PySem.W.Frag} {g : Gh} {H0 F0 H F : Hp} {st : Pk} {σ : St} {ρ : Ev} {a : Addr} {o : HO}
theorem Bs.updO (b : Bs g H0 F0 H F st) (h0 : H0 a = none) (hf : F a = none) (n1 : a ≠ g.a) (n2 : a ≠ g.l) : Bs g H0 F0 (upd H a o) F st where
  sub := fun c u h => by rw [upd_ne (ne_of_none h hf)]; exact b.sub c u h
  sa := by rw [upd_ne (Ne.symm n1)]; exact b.sa
  sl := by rw [upd_ne (Ne.symm n2)]; exact b.sl
  na := b.na
  nl := b.nl
  ne := b.ne
  ok := b.ok
  stp := ⟨b.stp.fr, b.stp.nw, fun c u h z1 z2 => by rw [upd_ne (ne_of_none h h0)]; exact b.stp.kp c u h z1 z2, fun c h => by
    by_cases e : c = a
    · subst e; exact h0
    · rw [upd_ne e] at h; exact b.stp.gr c h⟩
theorem Slots.updO {i : Nat} {s s' : Sl} (sl : Slots K g H0 H F σ ρ) (hρ : ρ[i]? = some s) (ho : s.owned = true) (hσ : σ[i]? = some (some (.ref a))) (hs : SlOk K g H0 (upd H a o) F s' (some (.ref a))) : Slots K g H0 (upd H a o) F σ (ρ.set i s') where
  len := by rw [List.length_set]; exact sl.len
  at_ := fun j t x e1 e2 => by
    by_cases hj : j = i
    · subst hj
      rw [List.getElem?_set_self (List.getElem?_eq_some_iff.mp hρ).1] at e1
      rw [hσ] at e2
      cases e1; cases e2; exact hs
    · rw [List.getElem?_set_ne (Ne.symm hj)] at e1
      have k := sl.at_ j t x e1 e2
      cases t with
      | no => exact True.intro
      | vl d => exact k
      | src => exact k
      | scl => exact k
      | ol ds =>
        obtain ⟨c, vs, e, h, n, n1, n2, n3, r⟩ := k
        exact ⟨c, vs, e, by rw [upd_ne (fun z => sl.dis j i _ _ a hj e1 hρ rfl ho (by rw [e2, e, z]) hσ)]; exact h, n, n1, n2, n3, r⟩
      | od ds =>
        obtain ⟨c, vs, e, h, n, n1, n2, n3, r⟩ := k
        exact ⟨c, vs, e, by rw [upd_ne (fun z => sl.dis j i _ _ a hj e1 hρ rfl ho (by rw [e2, e, z]) hσ)]; exact h, n, n1, n2, n3, r⟩
  dis := fun j k t u c hjk e1 e2 o1 o2 e3 e4 => by
    by_cases hj : j = i
    · subst hj
      by_cases hk : k = j
      · exact hjk hk.symm
      · rw [List.getElem?_set_ne (Ne.symm hk)] at e2
        rw [hσ] at e3
        exact sl.dis k j u s c hk e2 hρ o2 ho e4 (by rw [hσ]; exact e3)
    · rw [List.getElem?_set_ne (Ne.symm hj)] at e1
      by_cases hk : k = i
      · subst hk
        rw [hσ] at e4
        exact sl.dis j k t s c hj e1 hρ o1 ho e3 (by rw [hσ]; exact e4)
      · rw [List.getElem?_set_ne (Ne.symm hk)] at e2
        exact sl.dis j k t u c hjk e1 e2 o1 o2 e3 e4
end

section
variable {X : Cx} {w : Bool} {ws : List Nat} {e a b c tg : Expr} {es : List Expr} {m ma mb mc : Ev → M PyData} {pos : Pos} {s : Stmt} {rest body orelse : List Stmt} {m1 m2 : Ev → M Fl}

/-! ### comprehensions -/
def lcM : List PyData → (PyData → M (Option PyData)) → M (List PyData)
  | [], _ => pure []
  | d :: ds, f => do
    match ← f d with
    | none => lcM ds f
    | some x => do let r ← lcM ds f; pure (x :: r)
def lcF (ρ : Ev) (g : PyData → Ev → M Ev) (mt : Ev → M Bool) (me : Ev → M PyData) (vs : List Nat) : PyData → M (Option PyData) := fun d => do
  let ρ1 ← g d (wipeE ρ vs)
  if (← mt ρ1) then (do let x ← me ρ1; pure (some x)) else pure none
def mLc (mi : Ev → M (List PyData)) (g : PyData → Ev → M Ev) (mt : Ev → M Bool) (me : Ev → M PyData) (vs : List Nat) : Ev → M (List PyData) := fun ρ => do
  let ds ← mi ρ
  let ds ← lft (sz ds)
  lcM ds (lcF ρ g mt me vs)
def STS (X : Cx) (ifs : List Expr) (m : Ev → M Bool) : Prop := ∀ g H0 F0, PTs X ifs (tT X.K g H0 F0 m)
def mYes : Ev → M Bool := fun _ => pure true
theorem _root_.L2.PTs.imp {X : Cx} {s : List Expr} {t t' : TT} (h : PTs X s t) (hi : ∀ σ H Q, t' σ H Q → t σ H Q) : PTs X s t' := ⟨fun pins s σ H Q I q => h.run pins s σ H Q I (hi _ _ _ q)⟩
theorem sts_nil : STS X [] mYes := fun g H0 F0 => pts_nil.imp fun σ H Q ⟨ρ, F, st, k, st', b, s, e, q⟩ => by
  obtain ⟨rfl, rfl⟩ := purs e
  exact q H F b.base
theorem sts_one {mt : Ev → M Bool} (h : STs X c mt) : STS X [c] mt := fun g H0 F0 => pts_one (h g H0 F0)
theorem sz_lt {α : Type} {xs ys : List α} (h : sz xs = some ys) : xs = ys ∧ xs.length ≤ 1000000 := by
  unfold sz at h
  by_cases hl : xs.length ≤ 1000000
  · rw [if_pos hl] at h; cases h; exact ⟨rfl, hl⟩
  · rw [if_neg hl] at h; cases h
theorem lc_read {K : PySem.W.Frag} {g : Gh} {H0 F0 : Hp} {mi : Ev → M (List PyData)} {mg : PyData → Ev → M Ev} {mt : Ev → M Bool} {me : Ev → M PyData} {vs : List Nat} {σ : St} {H : Hp} {Q : VK}
    (h : tF K g H0 F0 (mLc mi mg mt me vs) σ H Q) : tLc (tJ w K g H0 F0 mi) (tG w K g H0 F0 vs mg) (tT K g H0 F0 mt) (tE K g H0 F0 me) vs σ H Q := by
  obtain ⟨ρ, F, st, out, st', b, sl, e, q⟩ := h
  obtain ⟨ds0, st1, e1, e2⟩ := bnd e
  obtain ⟨ds, st1b, e3, e4⟩ := bnd e2
  obtain ⟨e5, rfl⟩ := lfts e3
  obtain ⟨rfl, hz⟩ := sz_lt e5
  refine ⟨ρ, F, st, ds0, st1b, b, sl, e1, fun J H1 F1 b1 ok D hD => ?_⟩
  have bD : H D = none := b1.stp.gr D hD
  have nD1 : D ≠ g.a := fun z => by rw [z, b1.sa] at hD; cases hD
  have nD2 : D ≠ g.l := fun z => by rw [z, b1.sl] at hD; cases hD
  have fD : F1 D = none := by
    cases z : F1 D with
    | none => rfl
    | some o => have := b1.sub _ _ z; rw [hD] at this; cases this
  refine ⟨fun i k H2 => k = ds0.length - i ∧ ∃ F2 st2 acc ws r, Bs g H1 F1 H2 F2 st2 ∧ H2 D = some (.lst ws) ∧ F2 D = none ∧ RpA K F2 ws acc ∧ acc.length ≤ i ∧ lcM (ds0.drop i) (lcF ρ mg mt me vs) st2 = some (r, st') ∧ acc ++ r = out,
    ⟨ds0.length, by simp, F1, st1b, [], [], out, b1.base.newH hD, upd_same, fD, .nil, Nat.le_refl _, by rw [List.drop_zero]; exact e4, rfl⟩, ?_⟩
  rintro i k H2 ⟨rfl, F2, st2, acc, ws, r, b2, h2, f2, ra, hl, e6, e7⟩
  obtain ⟨go, stop⟩ := ok i g H1 F1 H2 F2 st2 b2 ⟨rfl, b2.stp⟩
  by_cases hi : i < ds0.length
  · have hd : ds0[i]? = some ds0[i] := List.getElem?_eq_getElem hi
    rw [List.drop_eq_getElem_cons hi] at e6
    obtain ⟨o, st3, e8, e9⟩ := bnd e6
    obtain ⟨ρ1, st4, e10, e11⟩ := bnd e8
    obtain ⟨kb, st5, e12, e13⟩ := bnd e11
    obtain ⟨hgo, hy⟩ := go _ hd
    refine .inr ⟨hgo, fun H' => ∃ F' st2 acc ws r, Bs g H1 F1 H' F' st2 ∧ H' D = some (.lst ws) ∧ F' D = none ∧ RpA K F' ws acc ∧ acc.length ≤ i + 1 ∧ lcM (ds0.drop (i + 1)) (lcF ρ mg mt me vs) st2 = some (r, st') ∧ acc ++ r = out,
      fun H' ⟨F', z⟩ => ⟨ds0.length - (i + 1), by omega, rfl, F', z⟩, fun x H3 y => ?_⟩
    obtain ⟨F3, b3, r3⟩ := hy x H3 y
    have B3 : Bs g H1 F1 H3 F3 st2 := b2.trans b3
    have A3 : Bs g H0 F0 H3 F3 st2 := (b.trans b1).trans B3
    refine ⟨wipeE ρ vs, F3, st2, _, ρ1, st4, A3, (((sl.step b1.stp).step B3.stp).wiped vs), r3, e10, fun σ4 H4 F4 b4 s4 w4 => ⟨by
      rw [w4]
      refine List.ext_getElem? fun j => ?_
      rw [wipe_get, wipe_get]
      by_cases hm : j ∈ vs
      · rw [if_pos hm, if_pos hm]; cases σ[j]? <;> rfl
      · rw [if_neg hm], ρ1, F4, st4, kb, st5, A3.trans b4, s4, e12, fun H5 F5 b5 => ?_⟩⟩
    cases kb with
    | false =>
      obtain ⟨rfl, rfl⟩ := purs e13
      rw [if_neg Bool.false_ne_true]
      have B : Bs g H2 F2 H5 F5 st3 := (b3.trans b4).trans b5
      exact ⟨F5, st3, acc, ws, r, b2.trans B, B.stp.kp _ _ h2 nD1 nD2, B.stp.own f2 h2, RpA.mono B.stp.fr _ _ ra, by omega, e9, e7⟩
    | true =>
      obtain ⟨x', st6, e14, e15⟩ := bnd e13
      obtain ⟨rfl, rfl⟩ := purs e15
      obtain ⟨r', st7, e16, e17⟩ := bnd e9
      obtain ⟨rfl, rfl⟩ := purs e17
      rw [if_pos rfl]
      refine ⟨ρ1, F5, st5, x', st3, (A3.trans b4).trans b5, s4.step b5.stp, e14, fun y' H6 F6 b6 r6 => ?_⟩
      have B : Bs g H2 F2 H6 F6 st3 := ((b3.trans b4).trans b5).trans b6
      have h6 : H6 D = some (.lst ws) := B.stp.kp _ _ h2 nD1 nD2
      have f6 : F6 D = none := B.stp.own f2 h2
      have ra6 := RpA.mono B.stp.fr _ _ ra
      refine ⟨ws, h6, by rw [ra.length]; have : (1000000 : Nat) < sizeLine := by decide
                         omega, F6, st3, acc ++ [x'], ws ++ [y'], r', (b2.trans B).updO hD f6 nD1 nD2, upd_same, f6, ra6.append (.cons r6 .nil), by rw [List.length_append, List.length_singleton]; omega, e16, by rw [List.append_assoc]; exact e7⟩
  · rw [List.drop_of_length_le (by omega)] at e6
    obtain ⟨rfl, rfl⟩ := purs e6
    rw [List.append_nil] at e7
    subst e7
    exact .inl ⟨stop (by omega), q D ws H2 F2 (b1.trans b2) bD h2 f2 ra⟩
theorem sf_lc {scope : Scope} {own : List (Str × Nat)} {elt iter : Expr} {ifs : List Expr} {mi : Ev → M (List PyData)} {mg : PyData → Ev → M Ev} {mt : Ev → M Bool} {me : Ev → M PyData} (hc : X.calm = true) (hN : X.N.Nodup) (hi : SJ w X tg iter mi) (ok : BlkOk X.N X.env.scope scope own)
    (hg : ∀ (s : Shared) (H : Hp) (C : Addr) (cl : List (Str × Addr)) (fp : List Addr), SG w (X.blk s H scope (compEnvC scope cl C X.env) fp) (own.map (·.2)) tg mg) (ht : ∀ (s : Shared) (H : Hp) (C : Addr) (cl : List (Str × Addr)) (fp : List Addr), STS (X.blk s H scope (compEnvC scope cl C X.env) fp) ifs mt)
    (he : ∀ (s : Shared) (H : Hp) (C : Addr) (cl : List (Str × Addr)) (fp : List Addr), SE (X.blk s H scope (compEnvC scope cl C X.env) fp) elt me) (hs : ∀ x, foldedSetIterable iter X.env x = pure x := by intro _; rfl) :
    SF X (.ListComp elt [⟨tg, iter, ifs, 0⟩] scope pos) (mLc mi mg mt me (own.map (·.2))) := fun g H0 F0 =>
  (pe_lc hc hN (hi g H0 F0) ok (fun s H C cl fp => hg s H C cl fp g H0 F0) (fun s H C cl fp => ht s H C cl fp g H0 F0) (fun s H C cl fp => he s H C cl fp g H0 F0) hs).imp fun σ H Q h => lc_read h
/-- name = [..] on one line -/
theorem ss_setLc {i : Nat} {y : Str} {py : Pos} {scope : Scope} {own : List (Str × Nat)} {elt iter : Expr} {ifs : List Expr} {spos : Pos} {mi : Ev → M (List PyData)} {mg : PyData → Ev → M Ev} {mt : Ev → M Bool} {me : Ev → M PyData} (hc : X.calm = true) (hN : X.N.Nodup) (hi : SJ w X tg iter mi) (ok : BlkOk X.N X.env.scope scope own)
    (hsw : swapsWith (.ListComp elt [⟨tg, iter, ifs, 0⟩] scope pos) (some (.Name y py)) spos.line X.env = pure true)
    (hg : ∀ (s : Shared) (H : Hp) (C : Addr) (cl : List (Str × Addr)) (fp : List Addr), SG w (X.blk s H scope (compEnvC scope cl C X.env) fp) (own.map (·.2)) tg mg) (ht : ∀ (s : Shared) (H : Hp) (C : Addr) (cl : List (Str × Addr)) (fp : List Addr), STS (X.blk s H scope (compEnvC scope cl C X.env) fp) ifs mt)
    (he : ∀ (s : Shared) (H : Hp) (C : Addr) (cl : List (Str × Addr)) (fp : List Addr), SE (X.blk s H scope (compEnvC scope cl C X.env) fp) elt me) (hy : X.N[i]? = some y := by rfl) (hyl : X.env.scope.names.lookup y = some .local := by rfl) (hs : ∀ x, foldedSetIterable iter X.env x = pure x := by intro _; rfl) :
    SS X (.Assign [.Name y py] (.ListComp elt [⟨tg, iter, ifs, 0⟩] scope pos) spos) (mSetF i (mLc mi mg mt me (own.map (·.2)))) := fun g H0 F0 =>
  (ps_setLc hc hN hy hyl hsw (hi g H0 F0) ok (fun s H C cl fp => hg s H C cl fp g H0 F0) (fun s H C cl fp => ht s H C cl fp g H0 F0) (fun s H C cl fp => he s H C cl fp g H0 F0) hs).imp fun D σ H ⟨ρ, F, st, fl, st', b, sl, e, q⟩ => by
  obtain ⟨d, st1, e1, e2⟩ := bnd e
  obtain ⟨rfl, rfl⟩ := purs e2
  exact lc_read ⟨ρ, F, st, d, st', b, sl, e1, fun a vs H' F' b' h1 h2 h3 r => q _ H' F' (b.trans b') b'.stp.fr (sl.fresh (fresh_ol b b' h1 h2 h3 r) b'.stp h1)⟩

/-! ### subscripts -/
def ixD : PyData → PyData → Option PyData
  | .list ds, .int i => atI ds i
  | .tuple ds, .int i => atI ds i
  | _, _ => none
theorem RpA.atI {K : PySem.W.Frag} {F : Hp} {vs : List V} {ds : List PyData} {i : Int} {d : PyData} (h : RpA K F vs ds) (e : L2.atI ds i = some d) : ∃ v, L2.atI vs i = some v ∧ Rp K F v d := by
  unfold L2.atI at e ⊢
  rw [h.length]
  obtain ⟨j, e1, e2⟩ := Option.bind_eq_some_iff.mp e
  obtain ⟨v, e3, r⟩ := h.get e2
  exact ⟨v, Option.bind_eq_some_iff.mpr ⟨j, e1, e3⟩, r⟩
theorem se_ix (ha : SB X a ma) (hb : SB X b mb) (hs : PlainIx b := by intro _ _; rfl) : SE X (.Subscript a b pos) (mOp ixD ma mb) := fun g H0 F0 => (pe_ix ix_seq (ha g H0 F0) (hb g H0 F0) hs).imp fun σ H Q ⟨ρ, F, st, d, st', b, s, e, q⟩ =>
  two b s e fun x y v w H2 F2 e3 b2 r1 r2 => by
    cases x <;> cases y <;> first | cases e3 | skip
    · have e4 : atI _ _ = some d := e3
      obtain ⟨a, vs, rfl, h, ra⟩ := r1.list b2.sub
      cases r2.int
      obtain ⟨z, e5, rz⟩ := ra.atI e4
      exact .inl ⟨a, vs, _, z, rfl, rfl, SqL.of h, e5, q z H2 F2 b2 rz⟩
    · have e4 : atI _ _ = some d := e3
      obtain ⟨a, vs, rfl, h1, h2, ra⟩ := r1.tuple b2.sub
      cases r2.int
      obtain ⟨z, e5, rz⟩ := ra.atI e4
      exact .inr (.inl ⟨a, vs, _, z, rfl, rfl, h2, e5, q z H2 F2 b2 rz⟩)

/-! ### slices -/
def cutP (ds : List PyData) (lo hi : Option Int) : List PyData := (ds.drop (HT.sIx ds.length 0 lo)).take (HT.sIx ds.length ds.length hi - HT.sIx ds.length 0 lo)
theorem RpA.cut {K : PySem.W.Frag} {F : Hp} {vs : List V} {ds : List PyData} (h : RpA K F vs ds) (lo hi : Option Int) : RpA K F (cutV vs lo hi) (cutP ds lo hi) := by
  unfold cutV cutP
  rw [h.length]
  exact (h.drop _).take _
def tP (K : PySem.W.Frag) (g : Gh) (H0 F0 : Hp) (m : Ev → M (Option Int)) : TO := fun σ H Q => ∃ ρ F st d st', Bs g H0 F0 H F st ∧ Slots K g H0 H F σ ρ ∧ m ρ st = some (d, st') ∧ ∀ H' F', Bs g H F H' F' st' → Q d H'
def SP' (X : Cx) (e : Option Expr) (m : Ev → M (Option Int)) : Prop := ∀ g H0 F0, PO X e (tP X.K g H0 F0 m)
theorem _root_.L2.PO.imp {X : Cx} {s : Option Expr} {t t' : TO} (h : PO X s t) (hi : ∀ σ H Q, t' σ H Q → t σ H Q) : PO X s t' := ⟨fun pins s σ H Q I q => h.run pins s σ H Q I (hi _ _ _ q)⟩
def mNoP : Ev → M (Option Int) := fun _ => pure none
def asI : PyData → Option Int
  | .int i => some i
  | _ => none
theorem asI_some {d : PyData} {i : Int} (h : asI d = some i) : d = .int i := by
  cases d <;> first | (cases h; rfl) | cases h
def mP (m : Ev → M PyData) : Ev → M (Option Int) := fun ρ => do let d ← m ρ; let i ← lft (asI d); pure (some i)
theorem sp_none : SP' X none mNoP := fun g H0 F0 => po_none.imp fun σ H Q ⟨ρ, F, st, k, st', b, s, e, q⟩ => by
  obtain ⟨rfl, rfl⟩ := purs e
  exact q H F b.base
theorem sp_some (h : SE X e m) : SP' X (some e) (mP m) := fun g H0 F0 => (po_some (h g H0 F0)).imp fun σ H Q ⟨ρ, F, st, k, st', b, s, e, q⟩ => by
  obtain ⟨d, st1, e1, f1⟩ := bnd e
  obtain ⟨i, st2, e2, f2⟩ := bnd f1
  obtain ⟨e4, rfl⟩ := lfts e2
  obtain ⟨rfl, rfl⟩ := purs f2
  cases asI_some e4
  refine ⟨ρ, F, st, _, st', b, s, e1, fun v H' F' b' r => ?_⟩
  cases r
  exact ⟨i, rfl, q H' F' b'⟩
def cutD (d : PyData) (lo hi : Option Int) : Option PyData := match d with
  | .list ds => some (.list (cutP ds lo hi))
  | .tuple ds => some (.tuple (cutP ds lo hi))
  | _ => none
def cutL (d : PyData) (lo hi : Option Int) : Option (List PyData) := match d with
  | .list ds => some (cutP ds lo hi)
  | _ => none
def mCut {α : Type} (φ : PyData → Option Int → Option Int → Option α) (m : Ev → M PyData) (l u : Ev → M (Option Int)) : Ev → M α := fun ρ => do let d ← m ρ; let lo ← l ρ; let hi ← u ρ; lft (φ d lo hi)
theorem cut_two {α : Type} {φ : PyData → Option Int → Option Int → Option α} {ml mu : Ev → M (Option Int)} {K : PySem.W.Frag} {g : Gh} {H0 F0 : Hp} {σ : St} {H F : Hp} {ρ : Ev} {st st' : Pk} {r : α} {R : V → Option Int → Option Int → Hp → Prop}
    (b : Bs g H0 F0 H F st) (s : Slots K g H0 H F σ ρ) (e : mCut φ m ml mu ρ st = some (r, st')) (h : ∀ x v lo hi H2 F2, φ x lo hi = some r → Bs g H F H2 F2 st' → RpB K g H2 F2 v x → R v lo hi H2) :
    tB K g H0 F0 m σ H fun v H1 => tP K g H0 F0 ml σ H1 fun lo H2 => tP K g H0 F0 mu σ H2 fun hi H3 => R v lo hi H3 := by
  obtain ⟨x, st1, e1, f1⟩ := bnd e
  obtain ⟨lo, st2, e2, f2⟩ := bnd f1
  obtain ⟨hi, st3, e3, f3⟩ := bnd f2
  obtain ⟨e4, rfl⟩ := lfts f3
  exact ⟨ρ, F, st, x, st1, b, s, e1, fun v H1 F1 b1 r1 => ⟨ρ, F1, st1, lo, st2, b.trans b1, s.step b1.stp, e2, fun H2 F2 b2 => ⟨ρ, F2, st2, hi, st', (b.trans b1).trans b2, (s.step b1.stp).step b2.stp, e3, fun H3 F3 b3 => h x v lo hi H3 F3 e4 ((b1.trans b2).trans b3) ((r1.step b2.stp).step b3.stp)⟩⟩⟩
def rSlZ (K : PySem.W.Frag) : V → Option Int → Option Int → Hp → VK → Prop := fun x lo hi H Q => ∃ a xs, x = .ref a ∧ SqT K H a xs ∧
  (HT.sIx xs.length 0 lo = 0 ∧ HT.sIx xs.length xs.length hi = xs.length → Q (.ref a) H) ∧ (∀ p o, H p = none → o.dict = none → Q (.ref p) (upd H p (.frz o (.tup (cutV xs lo hi)))))
theorem sl_tupZ : SlR X (rSlZ X.K) := by
  intro pins s σ H x v vl vu lo hi sl Q I rx hs pl pu ⟨a, xs, ex, hx, q1, q2⟩
  subst ex
  obtain rfl : v = Value.ref a := rx
  obtain ⟨its, r, ht, hz⟩ := I.tuple hx
  have hlen : its.toArray.size = xs.length := by rw [List.size_toArray]; exact r.length.symm
  refine ⟨"tuple", _, PyProof.Rows.slot_tuple_getitem.lookup, ht.typeIs, ?_⟩
  by_cases hw : HT.sIx xs.length 0 lo = 0 ∧ HT.sIx xs.length xs.length hi = xs.length
  · exact getItem_tuple_whole ht hs pl pu (by rw [hlen]; exact hw) ⟨.ref a, H, I, rfl, q1 hw⟩
  · refine HT.getItem_tuple_cut ht hs pl pu (by rw [hlen]; exact hw) ?_ (by rw [hlen]; exact hz)
    rw [hlen]
    exact ⟨.ref s.heap.objs.size, _, I.laid (t' := s.toks) (o := .frz _ (.tup (cutV xs lo hi))) (fun b ob q => Heap.get?_push_of_some _ q) (Nat.le_refl _)
      ⟨Heap.get?_push_size _ rfl, Nat.le_trans (cutV_length xs lo hi) hz, _, (r.drop (HT.sIx xs.length 0 lo)).take (HT.sIx xs.length xs.length hi - HT.sIx xs.length 0 lo), PyProof.Rows.IsTup.new _ _⟩, rfl, q2 _ _ (I.hok.fresh (Nat.le_refl _)) rfl⟩
theorem se_cut {lo hi : Option Expr} {p2 : Pos} {ml mu : Ev → M (Option Int)} (he : SB X e m) (hl : SP' X lo ml) (hu : SP' X hi mu) : SE X (.Subscript e (.Slice lo hi none p2) pos) (mCut cutD m ml mu) := fun g H0 F0 =>
  (pe_slice (sl_list.or sl_tupZ) (he g H0 F0) (hl g H0 F0) (hu g H0 F0)).imp fun σ H Q ⟨ρ, F, st, d, st', b, s, e, q⟩ => cut_two b s e fun x v lo hi H2 F2 e3 b2 r1 => by
    cases x <;> first | cases e3 | skip
    · obtain ⟨a, vs, rfl, h, ra⟩ := r1.list b2.sub
      exact .inl ⟨a, vs, rfl, SqL.of h, fun p hp => let ⟨b3, r3⟩ := b2.lstNew hp (ra.cut lo hi); q _ _ _ b3 r3⟩
    · rename_i ds
      obtain ⟨a, vs, rfl, h1, h2, ra⟩ := r1.tuple b2.sub
      refine .inr ⟨a, vs, rfl, h2, fun hw => ?_, fun p o hp ho => let ⟨b3, r3⟩ := b2.tupNew hp ho (ra.cut lo hi); q _ _ _ b3 r3⟩
      have ew : cutP ds lo hi = ds := by
        unfold cutP
        rw [← ra.length, hw.1, hw.2, List.drop_zero, Nat.sub_zero, ra.length, List.take_length]
      rw [ew] at q
      exact q _ H2 F2 b2 (.tup h1 ra)
theorem sf_cut {lo hi : Option Expr} {p2 : Pos} {ml mu : Ev → M (Option Int)} (he : SB X e m) (hl : SP' X lo ml) (hu : SP' X hi mu) : SF X (.Subscript e (.Slice lo hi none p2) pos) (mCut cutL m ml mu) := fun g H0 F0 =>
  (pe_slice sl_list (he g H0 F0) (hl g H0 F0) (hu g H0 F0)).imp fun σ H Q ⟨ρ, F, st, d, st', b, s, e, q⟩ => cut_two b s e fun x v lo hi H2 F2 e3 b2 r1 => by
    cases x <;> first | cases e3 | skip
    obtain ⟨a, vs, rfl, h, ra⟩ := r1.list b2.sub
    exact ⟨a, vs, rfl, SqL.of h, fun p hp => q p _ _ F2 (b2.newH hp) (none_of b2 hp) upd_same (noneF b2 hp) (ra.cut lo hi)⟩

/-! ### calls of built-ins -/
def rC (K : PySem.W.Frag) (φ : List PyData → Option PyData) : List V → Hp → VK → Prop := fun vs H Q => ∃ g F st ds r, Bs g H F H F st ∧ RpBs K g H F vs ds ∧ φ ds = some r ∧ ∀ v H' F', Bs g H F H' F' st → Rp K F' v r → Q v H'
def rCF (K : PySem.W.Frag) (φ : List PyData → Option (List PyData)) : List V → Hp → VK → Prop := fun vs H Q => ∃ g F st ds r, Bs g H F H F st ∧ RpBs K g H F vs ds ∧ φ ds = some r ∧
  ∀ a vs H' F', Bs g H F H' F' st → H a = none → H' a = some (.lst vs) → F' a = none → RpA K F' vs r → Q (.ref a) H'
def CallD (X : Cx) (f : Value) (φ : List PyData → Option PyData) : Prop := CallR X f (rC X.K φ)
def CallF (X : Cx) (f : Value) (φ : List PyData → Option (List PyData)) : Prop := CallR X f (rCF X.K φ)
def mCl {α : Type} (φ : List PyData → Option α) (ms : Ev → M (List PyData)) : Ev → M α := fun ρ => do let ds ← ms ρ; lft (φ ds)
theorem args_of {α : Type} {φ : List PyData → Option α} {ms : Ev → M (List PyData)} {K : PySem.W.Frag} {g : Gh} {H0 F0 : Hp} {σ : St} {H F : Hp} {ρ : Ev} {st st' : Pk} {r : α} {R : List V → Hp → Prop} (b : Bs g H0 F0 H F st) (s : Slots K g H0 H F σ ρ) (e : mCl φ ms ρ st = some (r, st'))
    (h : ∀ ds vs H2 F2, φ ds = some r → Bs g H F H2 F2 st' → RpBs K g H2 F2 vs ds → R vs H2) : tAB K g H0 F0 ms σ H R := by
  obtain ⟨x, st1, e1, f1⟩ := bnd e
  obtain ⟨e4, rfl⟩ := lfts f1
  exact ⟨ρ, F, st, x, st', b, s, e1, fun vs H' F' b' r' => h x vs H' F' e4 b' r'⟩
section
variable {x : Str} {p : Pos} {id T : String} {ms : Ev → M (List PyData)}
theorem se_callB {φ : List PyData → Option PyData} (hc : CallD X (.builtin id) φ) (hm : X.mg x = none) (ha : SAB X (e :: es) ms) (hv : bootBuiltins x = some (.builtin id) := by decide +kernel) (hg : Gl X x := by rfl) (hn : x ≠ "__name__" := by decide) (hdb : (x == ("__debug__" : Str)) = false := by decide)
    (he : starEach (e :: es) X.env = (false, eval e X.env) :: starEach es X.env := by rfl) (hpl : (backTo pos (starEach es X.env)).any (·.1) = false := by rfl) : SE X (.Call (.Name x p) (e :: es) [] pos) (mCl φ ms) := fun g H0 F0 =>
  (pe_callB hc hg hm hv (ha g H0 F0) hn hdb he hpl).imp fun σ H Q ⟨ρ, F, st, d, st', b, s, e, q⟩ => args_of b s e fun ds vs H2 F2 e1 b2 r2 => ⟨g, F2, st', ds, d, b2.base, r2, e1, fun v H3 F3 b3 r3 => q v H3 F3 (b2.trans b3) r3⟩
theorem se_callT {φ : List PyData → Option PyData} (hc : CallD X (.type T) φ) (hm : X.mg x = none) (ha : SAB X (e :: es) ms) (hv : bootBuiltins x = some (.type T) := by decide +kernel) (hg : Gl X x := by rfl) (hn : x ≠ "__name__" := by decide) (hdb : (x == ("__debug__" : Str)) = false := by decide)
    (he : starEach (e :: es) X.env = (false, eval e X.env) :: starEach es X.env := by rfl) (hpl : (backTo pos (starEach es X.env)).any (·.1) = false := by rfl) : SE X (.Call (.Name x p) (e :: es) [] pos) (mCl φ ms) := fun g H0 F0 =>
  (pe_callTy hc hg hm hv (ha g H0 F0) hn hdb he hpl).imp fun σ H Q ⟨ρ, F, st, d, st', b, s, e, q⟩ => args_of b s e fun ds vs H2 F2 e1 b2 r2 => ⟨g, F2, st', ds, d, b2.base, r2, e1, fun v H3 F3 b3 r3 => q v H3 F3 (b2.trans b3) r3⟩
/-- a built-in function that the module has imported -/
theorem se_callG {φ : List PyData → Option PyData} (hc : CallD X (.builtin id) φ) (hm : X.mg x = some (.builtin id)) (ha : SAB X (e :: es) ms) (hg : Gl X x := by rfl) (hdb : (x == ("__debug__" : Str)) = false := by decide)
    (he : starEach (e :: es) X.env = (false, eval e X.env) :: starEach es X.env := by rfl) (hpl : (backTo pos (starEach es X.env)).any (·.1) = false := by rfl) : SE X (.Call (.Name x p) (e :: es) [] pos) (mCl φ ms) := fun g H0 F0 =>
  (pe_callBfun hc hg hm (ha g H0 F0) hdb he hpl).imp fun σ H Q ⟨ρ, F, st, d, st', b, s, e, q⟩ => args_of b s e fun ds vs H2 F2 e1 b2 r2 => ⟨g, F2, st', ds, d, b2.base, r2, e1, fun v H3 F3 b3 r3 => q v H3 F3 (b2.trans b3) r3⟩
theorem sf_callB {φ : List PyData → Option (List PyData)} (hc : CallF X (.builtin id) φ) (hm : X.mg x = none) (ha : SAB X (e :: es) ms) (hv : bootBuiltins x = some (.builtin id) := by decide +kernel) (hg : Gl X x := by rfl) (hn : x ≠ "__name__" := by decide) (hdb : (x == ("__debug__" : Str)) = false := by decide)
    (he : starEach (e :: es) X.env = (false, eval e X.env) :: starEach es X.env := by rfl) (hpl : (backTo pos (starEach es X.env)).any (·.1) = false := by rfl) : SF X (.Call (.Name x p) (e :: es) [] pos) (mCl φ ms) := fun g H0 F0 =>
  (pe_callB hc hg hm hv (ha g H0 F0) hn hdb he hpl).imp fun σ H Q ⟨ρ, F, st, d, st', b, s, e, q⟩ => args_of b s e fun ds vs H2 F2 e1 b2 r2 => ⟨g, F2, st', ds, d, b2.base, r2, e1, fun a vs H3 F3 b3 h1 h2 h3 r3 => q a vs H3 F3 (b2.trans b3) (none_of b2 h1) h2 h3 r3⟩
theorem sf_callT {φ : List PyData → Option (List PyData)} (hc : CallF X (.type T) φ) (hm : X.mg x = none) (ha : SAB X (e :: es) ms) (hv : bootBuiltins x = some (.type T) := by decide +kernel) (hg : Gl X x := by rfl) (hn : x ≠ "__name__" := by decide) (hdb : (x == ("__debug__" : Str)) = false := by decide)
    (he : starEach (e :: es) X.env = (false, eval e X.env) :: starEach es X.env := by rfl) (hpl : (backTo pos (starEach es X.env)).any (·.1) = false := by rfl) : SF X (.Call (.Name x p) (e :: es) [] pos) (mCl φ ms) := fun g H0 F0 =>
  (pe_callTy hc hg hm hv (ha g H0 F0) hn hdb he hpl).imp fun σ H Q ⟨ρ, F, st, d, st', b, s, e, q⟩ => args_of b s e fun ds vs H2 F2 e1 b2 r2 => ⟨g, F2, st', ds, d, b2.base, r2, e1, fun a vs H3 F3 b3 h1 h2 h3 r3 => q a vs H3 F3 (b2.trans b3) (none_of b2 h1) h2 h3 r3⟩
end

/-! ### owned lists and dicts changed -/
def olAt (ρ : Ev) (i : Nat) : Option (List PyData) := match ρ[i]? with
  | some (.ol ds) => some ds
  | _ => none
theorem olAt_some {ρ : Ev} {i : Nat} {ds : List PyData} (h : olAt ρ i = some ds) : ρ[i]? = some (.ol ds) := by
  unfold olAt at h
  cases z : ρ[i]? with
  | none => rw [z] at h; cases h
  | some s => rw [z] at h; cases s <;> first | (cases h; rfl) | cases h
def odAt (ρ : Ev) (i : Nat) : Option (List (PyData × PyData)) := match ρ[i]? with
  | some (.od ds) => some ds
  | _ => none
theorem odAt_some {ρ : Ev} {i : Nat} {ds : List (PyData × PyData)} (h : odAt ρ i = some ds) : ρ[i]? = some (.od ds) := by
  unfold odAt at h
  cases z : ρ[i]? with
  | none => rw [z] at h; cases h
  | some s => rw [z] at h; cases s <;> first | (cases h; rfl) | cases h
def szI {α : Type} (n : Nat) (x : α) : Option α := if n < 1000000 then some x else none
theorem szI_some {α : Type} {n : Nat} {x y : α} (h : szI n x = some y) : x = y ∧ n < 1000000 := by
  unfold szI at h
  by_cases hl : n < 1000000
  · rw [if_pos hl] at h; cases h; exact ⟨rfl, hl⟩
  · rw [if_neg hl] at h; cases h
theorem line6 {n : Nat} (h : n < 1000000) : n < sizeLine := by have : (1000000 : Nat) < sizeLine := by decide
                                                               omega
def mAppend (i : Nat) (m : Ev → M PyData) : Ev → M Fl := fun ρ => do
  let ds ← lft (olAt ρ i)
  let d ← m ρ
  let ds ← lft (szI ds.length (ds ++ [d]))
  pure (.nx (ρ.set i (.ol ds)))
theorem ss_append {i : Nat} {x : Str} {xp apos cpos : Pos} (he : SE X e m) (hv : PE X (.Name x xp) (tVar i)) (hs : swapsWith (.Call (.Attribute (.Name x xp) "append" apos) [e] [] cpos) none pos.line X.env = pure false := by rfl)
    (hbase : attributeBase (.Name x xp) "append" X.env (eval (.Name x xp) X.env) = eval (.Name x xp) X.env := by rfl)
    (hfew : ((backTo cpos (starEach [e] X.env)).all (fun x => !x.1) && (backToKw cpos (keywordEach [] X.env)).all (fun x => x.1.isSome)
      && decide (([e] : List Expr).length + ([] : List Keyword).length + (if ([] : List Keyword).isEmpty then 0 else 1) < 30)) = true := by rfl)
    (hline : (apos.endLine == cpos.line) = true := by rfl) (hst : starEach [e] X.env = (false, eval e X.env) :: starEach [] X.env := by rfl) (hplain : (backTo cpos (starEach [] X.env)).any (·.1) = false := by rfl) :
    SS X (.Expr (.Call (.Attribute (.Name x xp) "append" apos) [e] [] cpos) pos) (mAppend i m) := fun g H0 F0 =>
  (ps_expr (pe_bm PySem.F.plainAttrs_list PySem.F.slot_list_append PySem.F.type_list_append mt_append hv (pa_cons (he g H0 F0) pa_nil hst) hbase hfew hline hst hplain) hs).imp fun D σ H ⟨ρ, F, st, fl, st', b, sl, e, q⟩ => by
  obtain ⟨ds, st1, e1, f1⟩ := bnd e
  obtain ⟨e2, rfl⟩ := lfts e1
  obtain ⟨d, st2, e3, f2⟩ := bnd f1
  obtain ⟨ds2, st3, e4, f3⟩ := bnd f2
  obtain ⟨e5, rfl⟩ := lfts e4
  obtain ⟨rfl, hz⟩ := szI_some e5
  obtain ⟨rfl, rfl⟩ := purs f3
  have hρ := olAt_some e2
  obtain ⟨y, hσ, a, vs, rfl, h, n, n1, n2, n3, r⟩ := sl.get hρ
  refine ⟨_, hσ, .inl ⟨rfl, vs, SqL.of h⟩, ρ, F, st1, d, st', b, sl, e3, fun w H' F' b' rw' => ?_⟩
  have h' := b'.stp.kp _ _ h n1 n2
  have n' := b'.stp.own n h
  refine ⟨a, vs, w, rfl, rfl, h', line6 (by rw [r.length]; exact hz), ?_⟩
  exact q σ _ F' ((b.trans b').updO n3 n' n1 n2) b'.stp.fr ((sl.step b'.stp).updO hρ rfl hσ ⟨a, _, rfl, upd_same, n', n1, n2, n3, (RpA.mono b'.stp.fr _ _ r).append (.cons rw' .nil)⟩)
def extD : List PyData → PyData → Option (List PyData)
  | ds, .list es => szI (ds.length + es.length) (ds ++ es)
  | _, _ => none
def mExtend (i : Nat) (m : Ev → M PyData) : Ev → M Fl := fun ρ => do
  let ds ← lft (olAt ρ i)
  let d ← m ρ
  let ds ← lft (extD ds d)
  pure (.nx (ρ.set i (.ol ds)))
theorem ss_extend {i : Nat} {x : Str} {xp apos cpos : Pos} (he : SB X e m) (hv : PE X (.Name x xp) (tVar i)) (hs : swapsWith (.Call (.Attribute (.Name x xp) "extend" apos) [e] [] cpos) none pos.line X.env = pure false := by rfl)
    (hbase : attributeBase (.Name x xp) "extend" X.env (eval (.Name x xp) X.env) = eval (.Name x xp) X.env := by rfl)
    (hfew : ((backTo cpos (starEach [e] X.env)).all (fun x => !x.1) && (backToKw cpos (keywordEach [] X.env)).all (fun x => x.1.isSome)
      && decide (([e] : List Expr).length + ([] : List Keyword).length + (if ([] : List Keyword).isEmpty then 0 else 1) < 30)) = true := by rfl)
    (hline : (apos.endLine == cpos.line) = true := by rfl) (hst : starEach [e] X.env = (false, eval e X.env) :: starEach [] X.env := by rfl) (hplain : (backTo cpos (starEach [] X.env)).any (·.1) = false := by rfl) :
    SS X (.Expr (.Call (.Attribute (.Name x xp) "extend" apos) [e] [] cpos) pos) (mExtend i m) := fun g H0 F0 =>
  (ps_expr (pe_bm PySem.F.plainAttrs_list PySem.F.slot_list_extend PySem.F.type_list_extend mt_extend hv (pa_cons (he g H0 F0) pa_nil hst) hbase hfew hline hst hplain) hs).imp fun D σ H ⟨ρ, F, st, fl, st', b, sl, e, q⟩ => by
  obtain ⟨ds, st1, e1, f1⟩ := bnd e
  obtain ⟨e2, rfl⟩ := lfts e1
  obtain ⟨d, st2, e3, f2⟩ := bnd f1
  obtain ⟨ds2, st3, e4, f3⟩ := bnd f2
  obtain ⟨e5, rfl⟩ := lfts e4
  obtain ⟨rfl, rfl⟩ := purs f3
  cases d with
  | list es =>
    obtain ⟨rfl, hz⟩ := szI_some (show szI (ds.length + es.length) (ds ++ es) = some ds2 from e5)
    have hρ := olAt_some e2
    obtain ⟨y, hσ, a, vs, rfl, h, n, n1, n2, n3, r⟩ := sl.get hρ
    refine ⟨_, hσ, .inl ⟨rfl, vs, SqL.of h⟩, ρ, F, st1, _, st', b, sl, e3, fun w H' F' b' rw' => ?_⟩
    have h' := b'.stp.kp _ _ h n1 n2
    have n' := b'.stp.own n h
    obtain ⟨c, zs, rfl, hc, rc⟩ := rw'.list b'.sub
    refine ⟨a, c, vs, zs, rfl, rfl, h', hc, Nat.le_of_lt (line6 (by rw [r.length, rc.length]; exact hz)), ?_⟩
    exact q σ _ F' ((b.trans b').updO n3 n' n1 n2) b'.stp.fr ((sl.step b'.stp).updO hρ rfl hσ ⟨a, _, rfl, upd_same, n', n1, n2, n3, (RpA.mono b'.stp.fr _ _ r).append rc⟩)
  | none => cases e5
  | bool _ => cases e5
  | int _ => cases e5
  | str _ => cases e5
  | tuple _ => cases e5
  | dict _ => cases e5
end
end DL
end

section
set_option Elab.async false
set_option linter.all false
set_option maxRecDepth 100000
set_option maxHeartbeats 4000000
/-! DL5: defs of one's own, by mirrors; the operators and built-ins on data. -/
namespace DL
open PySem PySem.Spec PyProof.Rows L2

/-! ### a def, where nothing is being shown (repr) -/
structure FnG (P : Program) (w : World) (K : PySem.W.Frag) (mg : Str → Option Value) (base : Heap) (k : Nat) (f : Addr) (fd : FuncData) (ps : List Str) (sp : List V → Hp → VK → Prop) : Prop where
  len : ∀ vs H Q, sp vs H Q → vs.length = ps.length
  run : ∀ (A : Around) (outer : List Env) (s : Shared) (H : Hp) (args : Args) (us : List Value) (vs : List V) (Q : VK), Room k A → A.guards = some [] → Env0 P w K mg base A outer s H → BindsTo s fd args (ps.zip us) → Vals vs us → sp vs H Q →
    codeAny (model P w) A (.call (.ref f) args) (CR CX0 outer P w H s Q E0) s
theorem FnG.mono {P : Program} {w : World} {K : PySem.W.Frag} {mg : Str → Option Value} {base : Heap} {j k : Nat} {f : Addr} {fd : FuncData} {ps : List Str} {sp : List V → Hp → VK → Prop} (F : FnG P w K mg base j f fd ps sp) (h : j ≤ k) : FnG P w K mg base k f fd ps sp :=
  ⟨F.len, fun A outer s H args us vs Q hr => F.run A outer s H args us vs Q (hr.mono h)⟩
theorem FnG.imp {P : Program} {w : World} {K : PySem.W.Frag} {mg : Str → Option Value} {base : Heap} {k : Nat} {f : Addr} {fd : FuncData} {ps : List Str} {sp sp' : List V → Hp → VK → Prop} (F : FnG P w K mg base k f fd ps sp) (h : ∀ vs H Q, sp' vs H Q → sp vs H Q) : FnG P w K mg base k f fd ps sp' :=
  ⟨fun vs H Q q => F.len vs H Q (h _ _ _ q), fun A outer s H args us vs Q hr hg he hb hv hs => F.run A outer s H args us vs Q hr hg he hb hv (h _ _ _ hs)⟩

section
variable {X : Cx} {k : Nat} {f : Addr} {fd : FuncData} {ps : List Str} {sp : List V → Hp → VK → Prop} {x : Str} {p pos : Pos} {e : Expr} {es : List Expr} {t : TA}
theorem runG {pins : List (Addr × Obj)} {σ : L2.St} {H : Hp} {s : Shared} {Q : VK} {us : List Value} {vs : List V} (F : FnG X.prog X.w X.K X.mg X.base k f fd ps sp) (hr : Room k X.A) (hgu : X.A.guards = some []) (hb : Binds X.K fd ps [])
    (I : Inv X pins σ H s) (r : Vals vs us) (h : sp vs H Q) : wpAny (model X.prog X.w) X.A (call (.ref f) us) (EP X pins σ Q) X.xe s := by
  have hl : (us ++ []).length = ps.length := by rw [List.append_nil, ← r.length]; exact F.len _ _ _ h
  have hbind := hb s us I.kIn hl
  rw [List.append_nil] at hbind
  refine wpAny_call (codeAny_mono (F.run X.A X.stack s H ⟨us, []⟩ us vs Q hr hgu I.env0 hbind r h) fun res s' hq => ?_)
  match res, hq with
  | .ok (.ret u), hq => exact I.after hq
  | .ok .next, hq => exact False.elim hq
  | .ok .brk, hq => exact False.elim hq
  | .ok .cont, hq => exact False.elim hq
  | .error e, hq => exact False.elim hq
theorem pe_callG (F : FnG X.prog X.w X.K X.mg X.base k f fd ps sp) (hr : Room k X.A) (hgu : X.A.guards = some []) (hm : X.mg x = some (.ref f)) (hk : PySem.W.keepIn X.K (.ref f) = true) (hb : Binds X.K fd ps [])
    (ha : PA X (e :: es) t) (hg : Gl X x := by rfl) (hdb : (x == ("__debug__" : Str)) = false := by decide) (he : starEach (e :: es) X.env = (false, eval e X.env) :: starEach es X.env := by rfl) (hpl : (backTo pos (starEach es X.env)).any (·.1) = false := by rfl) :
    PE X (.Call (.Name x p) (e :: es) [] pos) (fun σ H Q => t σ H fun vs H1 => sp vs H1 Q) := ⟨fun pins s σ H Q I h =>
  wpAny_Call_Name_kw (ld_glob I hg hm (PySem.W.callWith_K (h₀ := X.base) I.ok.mod.kin hk (thn (ha.run pos pins s σ H _ I h) fun us s1 ⟨vs, H1, I1, r, q⟩ => ⟨I1.kIn, runG F hr hgu hb I1 r q⟩) he hpl) hdb)⟩
theorem pe_callG0 (F : FnG X.prog X.w X.K X.mg X.base k f fd ps sp) (hr : Room k X.A) (hgu : X.A.guards = some []) (hm : X.mg x = some (.ref f)) (hk : PySem.W.keepIn X.K (.ref f) = true) (hb : Binds X.K fd ps [])
    (hg : Gl X x := by rfl) (hdb : (x == ("__debug__" : Str)) = false := by decide) : PE X (.Call (.Name x p) [] [] pos) (fun _ H Q => sp [] H Q) := ⟨fun pins s σ H Q I h =>
  wpAny_Call_Name_kw (ld_glob I hg hm (PySem.W.callWith_K0 I.kIn hk (runG (us := []) F hr hgu hb I .nil h)) hdb)⟩
end
/-- the rule: a def by its body -/
theorem fnG_of {P : Program} {w : World} {K : PySem.W.Frag} {mg : Str → Option Value} {base : Heap} {k : Nat} {f : Addr} {qual x : Str} {st : Stmt} {fd : FuncData} {N ps : List Str} {sp : List V → Hp → VK → Prop} (F : Fun K x qual st f fd) (S : FnScope N ps (defScope st))
    (len : ∀ vs H Q, sp vs H Q → vs.length = ps.length)
    (hbody : ∀ (cdv : Value) (A : Around) (outer : List Env) (s : Shared) (H : Hp) (vs : List V) (Q : VK), Room k (A.deeper (envOfC qual (defScope st) s.heap.objs.size f cdv)) → A.guards = some [] → sp vs H Q →
      ∃ t, PSs (cxOf CX0 P w K mg base N qual (defScope st) f cdv A outer s H E0).nox (defBody st) t ∧ t { nx := fun _ H' => Q .non H', rt := Q } (L2.start N vs) H) : FnG P w K mg base (k + 1) f fd ps sp := by
  obtain ⟨oc, od, kV, doc, pm, an, cdv, ct, osl, rfl, lk, hcd⟩ := F.ex
  refine ⟨len, fun A outer s H args us vs Q hr hgu e0 hb r hsp => ?_⟩
  have old : ∀ b o, base.get? b = some o → s.heap.get? b = some o := fun b o e => (e0.bs b o e).1
  have KX : K.In s.heap := e0.mod.kin.keeps old
  obtain ⟨t, ht, hq⟩ := hbody cdv A outer s H vs Q (hr.deeper _) hgu hsp
  refine codeAny_call_function hr.depth (KX _ _ lk) rfl S.co S.gen rfl (PySem.W.codeRec_of KX hcd) (hb _ _ _ _ ?_)
  refine wpAny_newFunctionEnv_cells S.kind (fun ⟨n, v⟩ hy => (S.par n (List.of_mem_zip hy).1).imp id fun q => ⟨q, PySem.W.cellsFrom_some _ _ _ (.inl q)⟩) fun env he s1 x => ?_
  subst he
  refine ⟨(e0.mod.nolimit.keeps old).keeps x.toInCall.keep, codeAny_func ?_⟩
  have I := inv_start (CX := CX0) (E := E0) (qual := qual) (f := f) (cd := cdv) S hr.hd e0 (len _ _ _ hsp) r x
  refine wpAny_mono (ht.nox.run [] s1 (L2.start N vs) H _ I hq) (fun fl s' hs => ?_) fun e s' hs => hs
  match fl, hs with
  | .ret u, ⟨v, σ', H', J, rv, q⟩ => exact ⟨v, H', J.os, J.bare, J.base, J.hok, rv, q⟩
  | .next, ⟨σ', H', J, q⟩ => exact ⟨V.non, H', J.os, J.bare, J.base, J.hok, rfl, q⟩
  | .brk, ⟨_, _, _, q⟩ => exact False.elim q
  | .cont, ⟨_, _, _, q⟩ => exact False.elim q

/-! ### a def's mirror -/
/-- what a def promises by its mirror mf; b: whether its first argument is the source -/
def spD (K : PySem.W.Frag) (g : Gh) (b : Bool) (n : Nat) (mf : List PyData → M PyData) : List V → Hp → VK → Prop := fun vs H Q => vs.length = n ∧ ∃ F st vs' ds d st', Bs g H F H F st ∧ (if b = true then vs = .ref g.a :: vs' else vs = vs') ∧ RpA K F vs' ds ∧ mf ds st = some (d, st') ∧
  ∀ v H' F', Bs g H F H' F' st' → Rp K F' v d → Q v H'
/-- a frame at its start -/
def ev0 (b : Bool) (n : Nat) (ds : List PyData) : Ev := (if b = true then [Sl.src] else []) ++ ds.map Sl.vl ++ List.replicate (n - (ds.length + if b = true then 1 else 0)) .no
def fnM (b : Bool) (n : Nat) (mb : Ev → M Fl) : List PyData → M PyData := fun ds => do
  match ← mb (ev0 b n ds) with
  | .rt d => pure d
  | .nx _ => pure .none
  | _ => lft none
theorem ev0_slots {K : PySem.W.Frag} {g : Gh} {H0 H F : Hp} {N : List Str} {b : Bool} {vs vs' : List V} {ds : List PyData} (hv : if b = true then vs = .ref g.a :: vs' else vs = vs') (r : RpA K F vs' ds) : Slots K g H0 H F (L2.start N vs) (ev0 b N.length ds) := by
  have hl : vs.length = ds.length + (if b = true then 1 else 0) := by
    cases b with
    | true =>
      rw [if_pos rfl] at hv ⊢
      subst hv
      rw [List.length_cons, r.length]
    | false =>
      rw [if_neg Bool.false_ne_true] at hv ⊢
      subst hv
      rw [r.length]; rfl
  have al : ((if b = true then [Sl.src] else []) ++ ds.map Sl.vl).length = vs.length := by
    rw [List.length_append, List.length_map, hl]
    cases b <;> simp <;> omega
  have nown : ∀ (i : Nat) (s : Sl), (ev0 b N.length ds)[i]? = some s → s.owned = false := by
    intro i s e
    have hm : s ∈ ev0 b N.length ds := List.mem_of_getElem? e
    unfold ev0 at hm
    rcases List.mem_append.mp hm with hm | hm
    · rcases List.mem_append.mp hm with hm | hm
      · cases b with
        | true => rw [if_pos rfl] at hm; rw [List.mem_singleton.mp hm]; rfl
        | false => cases hm
      · obtain ⟨d, _, rfl⟩ := List.mem_map.mp hm; rfl
    · rw [(List.mem_replicate.mp hm).2]; rfl
  refine ⟨?_, fun i s x e1 e2 => ?_, fun i j s t a hij e1 e2 o1 o2 _ _ => by rw [nown i s e1] at o1; cases o1⟩
  · unfold L2.start ev0
    rw [List.length_append, List.length_append, List.length_map, List.length_replicate, List.length_replicate, al, hl]
  · unfold ev0 at e1
    unfold L2.start at e2
    by_cases hi : i < vs.length
    · rw [List.getElem?_append_left (by rw [al]; exact hi)] at e1
      rw [List.getElem?_append_left (by rw [List.length_map]; exact hi), List.getElem?_map] at e2
      cases b with
      | true =>
        rw [if_pos rfl] at hv e1
        subst hv
        cases i with
        | zero =>
          cases (show some Sl.src = some s from e1)
          cases (show some (some (V.ref g.a)) = some x from e2)
          rfl
        | succ i =>
          have e1' : (ds.map Sl.vl)[i]? = some s := by simpa using e1
          have e2' : (vs'[i]?).map some = some x := by simpa using e2
          rw [List.getElem?_map] at e1'
          obtain ⟨d, hd, rfl⟩ := Option.map_eq_some_iff.mp e1'
          obtain ⟨v, hv, rfl⟩ := Option.map_eq_some_iff.mp e2'
          obtain ⟨w, hw, rw'⟩ := r.get hd
          rw [hv] at hw; cases hw
          exact ⟨_, rfl, rw'⟩
      | false =>
        rw [if_neg Bool.false_ne_true] at hv e1
        subst hv
        have e1' : (ds.map Sl.vl)[i]? = some s := by simpa using e1
        rw [List.getElem?_map] at e1'
        obtain ⟨d, hd, rfl⟩ := Option.map_eq_some_iff.mp e1'
        obtain ⟨v, hv, rfl⟩ := Option.map_eq_some_iff.mp e2
        obtain ⟨w, hw, rw'⟩ := r.get hd
        rw [hv] at hw; cases hw
        exact ⟨_, rfl, rw'⟩
    · rw [List.getElem?_append_right (by rw [al]; omega)] at e1
      rw [(List.mem_replicate.mp (List.mem_of_getElem? e1)).2]
      exact True.intro
/-- what stands in a def's context -/
structure Gd (X : Cx) (k : Nat) : Prop where
  calm : X.calm = true
  nd : X.N.Nodup
  gu : X.A.guards = some []
  room : Room k X.A
/-- a def keeps its mirror's promise at level k -/
def FnM (P : Program) (w : World) (K : PySem.W.Frag) (mg : Str → Option Value) (base : Heap) (k : Nat) (f : Addr) (fd : FuncData) (ps : List Str) (b : Bool) (mf : List PyData → M PyData) : Prop := ∀ g, FnG P w K mg base k f fd ps (spD K g b ps.length mf)
theorem FnM.mono {P : Program} {w : World} {K : PySem.W.Frag} {mg : Str → Option Value} {base : Heap} {j k : Nat} {f : Addr} {fd : FuncData} {ps : List Str} {b : Bool} {mf : List PyData → M PyData} (F : FnM P w K mg base j f fd ps b mf) (h : j ≤ k) : FnM P w K mg base k f fd ps b mf := fun g => (F g).mono h
theorem fnM_of {P : Program} {w : World} {K : PySem.W.Frag} {mg : Str → Option Value} {base : Heap} {k : Nat} {f : Addr} {qual x : Str} {st : Stmt} {fd : FuncData} {N ps : List Str} {b : Bool} {mb : Ev → M Fl} (F : Fun K x qual st f fd) (S : FnScope N ps (defScope st))
    (hbody : ∀ (cdv : Value) (A : Around) (outer : List Env) (s : Shared) (H : Hp), Gd (cxOf CX0 P w K mg base N qual (defScope st) f cdv A outer s H E0).nox k → SSs (cxOf CX0 P w K mg base N qual (defScope st) f cdv A outer s H E0).nox (defBody st) mb) : FnM P w K mg base (k + 1) f fd ps b (fnM b N.length mb) := fun g =>
  fnG_of F S (fun vs H Q h => h.1) fun cdv A outer s H vs Q hr hgu ⟨hl, F0, st0, vs', ds, d, st', b0, hv, r, e, q⟩ => by
    refine ⟨_, hbody cdv A outer s H ⟨rfl, S.nd, hgu, hr⟩ g H F0, ?_⟩
    obtain ⟨fl, st1, e1, e2⟩ := bnd e
    refine ⟨_, F0, st0, fl, st1, b0, ev0_slots hv r, e1, ?_⟩
    cases fl with
    | nx ρ' => obtain ⟨rfl, rfl⟩ := purs e2; exact fun σ' H' F' b' p s' => q .non H' F' b' .non
    | rt d' => obtain ⟨rfl, rfl⟩ := purs e2; exact fun v H' F' b' p r' => q v H' F' b' r'
    | bk ρ' => cases e2
    | ct ρ' => cases e2
theorem fnM_fail {P : Program} {w : World} {K : PySem.W.Frag} {mg : Str → Option Value} {base : Heap} {k : Nat} {f : Addr} {fd : FuncData} {ps : List Str} {b : Bool} : FnM P w K mg base k f fd ps b (fun _ => lft none) := fun g =>
  ⟨fun vs H Q h => h.1, fun A outer s H args us vs Q hr hgu he hb hv ⟨hl, F0, st0, vs', ds, d, st', b0, hv', r, e, q⟩ => by cases e⟩

section
variable {X : Cx} {k : Nat} {f : Addr} {fd : FuncData} {ps : List Str} {x : Str} {p pos : Pos} {e : Expr} {es : List Expr} {mf : List PyData → M PyData} {ms : Ev → M (List PyData)}
def lenI {α : Type} (n : Nat) (xs : List α) : Option (List α) := if xs.length = n then some xs else none
theorem lenI_some {α : Type} {n : Nat} {xs ys : List α} (h : lenI n xs = some ys) : xs = ys ∧ xs.length = n := by
  unfold lenI at h
  by_cases hl : xs.length = n
  · rw [if_pos hl] at h; cases h; exact ⟨rfl, hl⟩
  · rw [if_neg hl] at h; cases h
def mCall (n : Nat) (mf : List PyData → M PyData) (ms : Ev → M (List PyData)) : Ev → M PyData := fun ρ => do let ds ← ms ρ; let ds ← lft (lenI n ds); mf ds
/-- a call of a def of one's own -/
theorem se_call (F : FnM X.prog X.w X.K X.mg X.base k f fd ps false mf) (hr : Room k X.A) (hgu : X.A.guards = some []) (hm : X.mg x = some (.ref f)) (hk : PySem.W.keepIn X.K (.ref f) = true) (hb : Binds X.K fd ps []) (ha : SA X (e :: es) ms) (hg : Gl X x := by rfl) (hdb : (x == ("__debug__" : Str)) = false := by decide)
    (he : starEach (e :: es) X.env = (false, eval e X.env) :: starEach es X.env := by rfl) (hpl : (backTo pos (starEach es X.env)).any (·.1) = false := by rfl) : SE X (.Call (.Name x p) (e :: es) [] pos) (mCall ps.length mf ms) := fun g H0 F0 =>
  (pe_callG (F g) hr hgu hm hk hb (ha g H0 F0) hg hdb he hpl).imp fun σ H Q ⟨ρ, F, st, d, st', b, s, e, q⟩ => by
    obtain ⟨ds, st1, e1, f1⟩ := bnd e
    obtain ⟨ds2, st2, e2, f2⟩ := bnd f1
    obtain ⟨e3, rfl⟩ := lfts e2
    obtain ⟨rfl, hl⟩ := lenI_some e3
    exact ⟨ρ, F, st, ds, st2, b, s, e1, fun vs H1 F1 b1 r1 => ⟨by rw [r1.length, hl], F1, st2, vs, ds, d, st', b1.base, rfl, r1, f2, fun v H2 F2 b2 r2 => q v H2 F2 (b1.trans b2) r2⟩⟩
theorem se_call0 (F : FnM X.prog X.w X.K X.mg X.base k f fd [] false mf) (hr : Room k X.A) (hgu : X.A.guards = some []) (hm : X.mg x = some (.ref f)) (hk : PySem.W.keepIn X.K (.ref f) = true) (hb : Binds X.K fd [] []) (hg : Gl X x := by rfl) (hdb : (x == ("__debug__" : Str)) = false := by decide) :
    SE X (.Call (.Name x p) [] [] pos) (mCall 0 mf mNil) := fun g H0 F0 =>
  (pe_callG0 (F g) hr hgu hm hk hb hg hdb).imp fun σ H Q ⟨ρ, F, st, d, st', b, s, e, q⟩ => by
    obtain ⟨ds, st1, e1, f1⟩ := bnd e
    obtain ⟨ds2, st2, e2, f2⟩ := bnd f1
    obtain ⟨e3, rfl⟩ := lfts e2
    obtain ⟨rfl, rfl⟩ := purs e1
    obtain ⟨rfl, hl⟩ := lenI_some e3
    exact ⟨rfl, F, st2, [], [], d, st', b.base, rfl, .nil, f2, fun v H2 F2 b2 r2 => q v H2 F2 b2 r2⟩
def srcAt (ρ : Ev) (i : Nat) : Option Unit := match ρ[i]? with
  | some .src => some ()
  | _ => none
theorem srcAt_some {ρ : Ev} {i : Nat} {u : Unit} (h : srcAt ρ i = some u) : ρ[i]? = some .src := by
  unfold srcAt at h
  cases z : ρ[i]? with
  | none => rw [z] at h; cases h
  | some s => rw [z] at h; cases s <;> first | rfl | cases h
/-- .. whose first argument is the source -/
def mCallS (n : Nat) (i : Nat) (mf : List PyData → M PyData) (ms : Ev → M (List PyData)) : Ev → M PyData := fun ρ => do let _ ← lft (srcAt ρ i); let ds ← ms ρ; let ds ← lft (lenI n ds); mf ds
theorem se_callS {n i : Nat} {y : Str} {yp : Pos} (F : FnM X.prog X.w X.K X.mg X.base k f fd ps true mf) (hr : Room k X.A) (hgu : X.A.guards = some []) (hm : X.mg x = some (.ref f)) (hk : PySem.W.keepIn X.K (.ref f) = true) (hb : Binds X.K fd ps []) (hs : PE X (.Name y yp) (tVar i)) (ha : SA X es ms) (hn : ps.length = n + 1 := by rfl) (hg : Gl X x := by rfl) (hdb : (x == ("__debug__" : Str)) = false := by decide)
    (he0 : starEach (.Name y yp :: es) X.env = (false, eval (.Name y yp) X.env) :: starEach es X.env := by rfl) (hpl : (backTo pos (starEach es X.env)).any (·.1) = false := by rfl) : SE X (.Call (.Name x p) (.Name y yp :: es) [] pos) (mCallS n i mf ms) := fun g H0 F0 =>
  (pe_callG (F g) hr hgu hm hk hb (pa_cons hs (ha g H0 F0) he0) hg hdb he0 hpl).imp fun σ H Q ⟨ρ, F, st, d, st', b, s, e, q⟩ => by
    obtain ⟨u, st0, e0, f0⟩ := bnd e
    obtain ⟨e1, rfl⟩ := lfts e0
    obtain ⟨ds, st1, e1', f1⟩ := bnd f0
    obtain ⟨ds2, st2, e2, f2⟩ := bnd f1
    obtain ⟨e3, rfl⟩ := lfts e2
    obtain ⟨rfl, hl⟩ := lenI_some e3
    obtain ⟨y', hσ, hy⟩ := s.get (srcAt_some e1)
    cases (show y' = some (V.ref g.a) from hy)
    exact ⟨_, hσ, ρ, F, st0, ds, st2, b, s, e1', fun vs H1 F1 b1 r1 => ⟨by rw [List.length_cons, r1.length, hl, hn], F1, st2, vs, ds, d, st', b1.base, (by rw [if_pos rfl]), r1, f2, fun v H2 F2 b2 r2 => q v H2 F2 (b1.trans b2) r2⟩⟩
end
end DL
end

section
set_option Elab.async false
set_option linter.all false
set_option maxRecDepth 100000
set_option maxHeartbeats 4000000
/-! DL6: the operators and built-ins on data. -/
namespace DL
open PySem PySem.Spec PyProof.Rows L2

/-! ### data in the heap proper -/
theorem key_reads {h : Heap} : ∀ {k : Key} {v : Value}, keyIs k v = true → Reads h v (keyD k) []
  | .inl i, v, e => by
    rcases keyIs_shape e with ⟨j, t, e1, rfl⟩ | ⟨x, t, e1, rfl⟩
    · cases e1; exact .int i t
    · cases e1
  | .inr x, v, e => by
    rcases keyIs_shape e with ⟨j, t, e1, rfl⟩ | ⟨y, t, e1, rfl⟩
    · cases e1
    · cases e1; exact .str x t
mutual
theorem Rp.reads {X : Cx} {pins : List (Addr × Obj)} {σ : L2.St} {H F : Hp} {s : Shared} (I : Inv X pins σ H s) (sub : Same F H) : ∀ (d : PyData) (v : V) (u : Value), Rp X.K F v d → RelV v u → ∃ as, Reads s.heap u d as
  | .none, _, _, h, r => by cases h; cases r; exact ⟨_, .none⟩
  | .bool b, _, _, h, r => by cases h; cases r; exact ⟨_, .bool b⟩
  | .int i, _, _, h, r => by cases h; obtain ⟨t, rfl⟩ := r; exact ⟨_, .int i t⟩
  | .str x, _, _, h, r => by cases h; obtain ⟨t, rfl⟩ := r; exact ⟨_, .str x t⟩
  | .list ds, _, _, h, r => by
    cases h with
    | lst h1 h2 =>
      cases r
      obtain ⟨its, rv, ⟨o, n, ho, hc, _, hd⟩, _⟩ := I.list (SqL.of (sub _ _ h1))
      obtain ⟨as, hr⟩ := RpA.reads I sub ds _ its h2 rv
      exact ⟨_, .list ho hc hd (by simpa using hr)⟩
  | .tuple ds, _, _, h, r => by
    cases h with
    | tup h1 h2 =>
      cases r
      obtain ⟨its, rv, ⟨o, ho, hc, n, hd⟩, _⟩ := I.tuple (Same.sqT sub h1.sq)
      obtain ⟨as, hr⟩ := RpA.reads I sub ds _ its h2 rv
      exact ⟨_, .tuple ho hc hd (by simpa using hr)⟩
  | .dict kvs, _, _, h, r => by
    cases h with
    | dic h1 h2 =>
      cases r
      obtain ⟨_, _, vs, kv, o, es, ep, e1, e2, e3, e4, e5, _⟩ := (Rd.ok (.inr ⟨_, sub _ _ h1⟩) I.hok)
      obtain ⟨as, bs, h3, h4⟩ := RpK.reads I sub kvs _ vs es.toList h2 kv e5
      exact ⟨_, .dict e1 e2.1 e3 h3 h4⟩
theorem RpA.reads {X : Cx} {pins : List (Addr × Obj)} {σ : L2.St} {H F : Hp} {s : Shared} (I : Inv X pins σ H s) (sub : Same F H) : ∀ (ds : List PyData) (vs : List V) (us : List Value), RpA X.K F vs ds → Vals vs us → ∃ as, ReadsAll s.heap us ds as
  | [], _, _, h, r => by cases h; cases r; exact ⟨_, .nil⟩
  | d :: ds, _, _, h, r => by
    cases h with
    | cons h1 h2 =>
      cases r with
      | cons r1 r2 =>
        obtain ⟨as, q1⟩ := Rp.reads I sub d _ _ h1 r1
        obtain ⟨bs, q2⟩ := RpA.reads I sub ds _ _ h2 r2
        exact ⟨_, .cons q1 q2⟩
theorem RpK.reads {X : Cx} {pins : List (Addr × Obj)} {σ : L2.St} {H F : Hp} {s : Shared} (I : Inv X pins σ H s) (sub : Same F H) : ∀ (kvs : List (PyData × PyData)) (ks : List (Key × V)) (us : List (Key × Value)) (es : List DictEntry), RpK X.K F ks kvs → KV ks us → Pairs (mixKind X.prog X.w) es us →
    ∃ as bs, ReadsAll s.heap (es.map (·.key)) (kvs.map (·.1)) as ∧ ReadsAll s.heap (es.map (·.val)) (kvs.map (·.2)) bs
  | [], _, _, _, h, r, p => by cases h; cases r; cases p; exact ⟨_, _, .nil, .nil⟩
  | (k, d) :: kvs, _, _, _, h, r, p => by
    cases h with
    | @cons k v ks0 _ _ h1 h2 =>
      cases r with
      | cons r1 r2 =>
        cases p with
        | @cons e' kv' es' kvs' p1 p2 p3 =>
          obtain ⟨as, q1⟩ := Rp.reads I sub d _ _ h1 r1.2
          obtain ⟨bs, cs, q2, q3⟩ := RpK.reads I sub kvs _ _ _ h2 r2 p3
          exact ⟨_, _, .cons (key_reads (by rw [show k = _ from r1.1]; exact p1)) q2, .cons (show Reads s.heap e'.val d as by rw [p2]; exact q1) q3⟩
end
theorem RpB.reads {X : Cx} {pins : List (Addr × Obj)} {σ : L2.St} {g : Gh} {H F : Hp} {s : Shared} (I : Inv X pins σ H s) (sub : Same F H) {d : PyData} {v : V} {u : Value} (h : RpB X.K g H F v d) (r : RelV v u) : ∃ as, Reads s.heap u d as := by
  rcases h with h | ⟨a, vs, ds, rfl, rfl, h, n, n1, n2, ra⟩ | ⟨a, ks, kvs, rfl, rfl, h, n, n1, n2, ra⟩
  · exact Rp.reads I sub d v u h r
  · cases r
    obtain ⟨its, rv, ⟨o, n, ho, hc, _, hd⟩, _⟩ := I.list (SqL.of h)
    obtain ⟨as, hr⟩ := RpA.reads I sub ds _ its ra rv
    exact ⟨_, .list ho hc hd (by simpa using hr)⟩
  · cases r
    obtain ⟨_, _, vs, kv, o, es, ep, e1, e2, e3, e4, e5, _⟩ := I.hok _ _ h
    obtain ⟨as, bs, h3, h4⟩ := RpK.reads I sub kvs _ vs es.toList ra kv e5
    exact ⟨_, .dict e1 e2.1 e3 h3 h4⟩

/-! ### repr -/
mutual
theorem Rp.reprs {X : Cx} {pins : List (Addr × Obj)} {σ : L2.St} {H F : Hp} {s : Shared} (I : Inv X pins σ H s) (sub : Same F H) : ∀ (d : PyData) (v : V) (u : Value), Rp X.K F v d → RelV v u → d.showable = true → d.shown.length ≤ sizeLine → ∃ bs, ReadAtMost s.heap d.depth bs ∧ ReprK X.prog X.w bs s.heap d.depth u d.shown
  | .none, _, _, h, r, _, _ => by cases h; cases r; exact ⟨[], (fun _ h => nomatch h), by simp only [PyData.shown]; exact .of_is ReprIs.none _ _ _⟩
  | .bool b, _, _, h, r, _, _ => by cases h; cases r; exact ⟨[], (fun _ h => nomatch h), by simp only [PyData.shown]; exact .of_is (ReprIs.bool b) _ _ _⟩
  | .int i, _, _, h, r, hs, _ => by cases h; obtain ⟨t, rfl⟩ := r; exact ⟨[], (fun _ h => nomatch h), by simp only [PyData.shown]; exact .of_is (ReprIs.int t (by simpa [PyData.showable] using hs)) _ _ _⟩
  | .str x, _, _, h, r, _, hz => by cases h; obtain ⟨t, rfl⟩ := r; exact ⟨[], (fun _ h => nomatch h), by simp only [PyData.shown]; exact .of_is (ReprIs.str x t (by simpa only [PyData.shown] using hz)) _ _ _⟩
  | .list ds, v, u, h, r, hs, hz => by
    obtain ⟨as0, rd⟩ := Rp.reads I sub _ v u h r
    cases h with
    | @lst a vs _ h1 h2 =>
      cases r
      obtain ⟨its, rv, ⟨o, n, ho, hc, _, hd⟩, _⟩ := I.list (SqL.of (sub _ _ h1))
      have hz' : (listText (PyData.shownAll ds)).length ≤ sizeLine := by simpa only [PyData.shown] using hz
      obtain ⟨bs, hb, hk⟩ := RpA.reprs I sub ds _ its h2 rv (by simpa [PyData.showable] using hs) fun t ht => Nat.le_trans (listText_mem_le ht) hz'
      refine ⟨a :: bs, ReadAtMost.cons rd (by simp only [PyData.depth]; omega) hb, ?_⟩
      have hna : a ∉ bs := not_mem_of_deeper rd (by simp only [PyData.depth]; omega) hb
      simp only [PyData.depth, PyData.shown]
      cases its with
      | nil =>
        cases rv
        cases h2
        simp only [PyData.shownAll, listText_nil]
        exact ReprK.listEmpty ho hc hd
      | cons y l => exact ReprK.list ho hc hd hna (by simpa using hk.length_eq) fun i z e => hk.item i z (by simpa using e)
  | .tuple ds, v, u, h, r, hs, hz => by
    obtain ⟨as0, rd⟩ := Rp.reads I sub _ v u h r
    cases h with
    | @tup a vs _ h1 h2 =>
      cases r
      obtain ⟨its, rv, ⟨o, ho, hc, n, hd⟩, _⟩ := I.tuple (Same.sqT sub h1.sq)
      have hz' : (tupleText (PyData.shownAll ds)).length ≤ sizeLine := by simpa only [PyData.shown] using hz
      obtain ⟨bs, hb, hk⟩ := RpA.reprs I sub ds _ its h2 rv (by simpa [PyData.showable] using hs) fun t ht => Nat.le_trans (tupleText_mem_le ht) hz'
      refine ⟨a :: bs, ReadAtMost.cons rd (by simp only [PyData.depth]; omega) hb, ?_⟩
      simp only [PyData.depth, PyData.shown]
      exact ReprK.tuple ho hc hd (not_mem_of_deeper rd (by simp only [PyData.depth]; omega) hb) (by simpa using hk)
  | .dict kvs, v, u, h, r, hs, hz => by
    obtain ⟨as0, rd⟩ := Rp.reads I sub _ v u h r
    cases h with
    | @dic a od ks _ h1 h2 =>
      cases r
      obtain ⟨_, hsys, vs, kv, o, es, ep, e1, e2, e3, e4, e5, _⟩ := (Rd.ok (.inr ⟨_, sub _ _ h1⟩) I.hok)
      have hz' : (dictText (PyData.shownKv kvs)).length ≤ sizeLine := by simpa only [PyData.shown] using hz
      obtain ⟨bs, hb, hk⟩ := RpK.reprs I sub kvs _ vs es.toList h2 kv e5 (by simpa [PyData.showable] using hs) fun t ht => Nat.le_trans (dictText_mem_le ht) hz'
      refine ⟨a :: bs, ReadAtMost.cons rd (by simp only [PyData.depth]; omega) hb, ?_⟩
      simp only [PyData.depth, PyData.shown]
      exact ReprK.dict e1 e2.1 e3 hsys (not_mem_of_deeper rd (by simp only [PyData.depth]; omega) hb) hk
theorem RpA.reprs {X : Cx} {pins : List (Addr × Obj)} {σ : L2.St} {H F : Hp} {s : Shared} (I : Inv X pins σ H s) (sub : Same F H) : ∀ (ds : List PyData) (vs : List V) (us : List Value), RpA X.K F vs ds → Vals vs us → PyData.showableAll ds = true → (∀ t ∈ PyData.shownAll ds, t.length ≤ sizeLine) →
    ∃ bs, ReadAtMost s.heap (PyData.depthAll ds) bs ∧ ReprAllK X.prog X.w bs s.heap (PyData.depthAll ds) us (PyData.shownAll ds)
  | [], _, _, h, r, _, _ => by cases h; cases r; exact ⟨[], (fun _ h => nomatch h), by simp only [PyData.shownAll]; exact .nil⟩
  | d :: ds, _, _, h, r, hs, hz => by
    have hs' : d.showable = true ∧ PyData.showableAll ds = true := by simpa [PyData.showableAll] using hs
    cases h with
    | cons h1 h2 =>
      cases r with
      | cons r1 r2 =>
        obtain ⟨b1, hb1, k1⟩ := Rp.reprs I sub d _ _ h1 r1 hs'.1 (hz _ (by simp only [PyData.shownAll]; exact List.mem_cons_self ..))
        obtain ⟨b2, hb2, k2⟩ := RpA.reprs I sub ds _ _ h2 r2 hs'.2 fun t ht => hz t (by simp only [PyData.shownAll]; exact List.mem_cons_of_mem _ ht)
        refine ⟨b1 ++ b2, (hb1.mono (by simp only [PyData.depthAll]; exact Nat.le_max_left _ _)).append (hb2.mono (by simp only [PyData.depthAll]; exact Nat.le_max_right _ _)), ?_⟩
        simp only [PyData.depthAll, PyData.shownAll]
        exact .cons ((k1.more fun b hb => List.mem_append_left _ hb).level_le (Nat.le_max_left _ _)) (k2.more_le (fun b hb => List.mem_append_right _ hb) (Nat.le_max_right _ _))
theorem RpK.reprs {X : Cx} {pins : List (Addr × Obj)} {σ : L2.St} {H F : Hp} {s : Shared} (I : Inv X pins σ H s) (sub : Same F H) : ∀ (kvs : List (PyData × PyData)) (ks : List (Key × V)) (us : List (Key × Value)) (es : List DictEntry), RpK X.K F ks kvs → KV ks us → Pairs (mixKind X.prog X.w) es us → PyData.showableKv kvs = true → (∀ t ∈ PyData.shownKv kvs, t.length ≤ sizeLine) →
    ∃ bs, ReadAtMost s.heap (PyData.depthKv kvs) bs ∧ ReprEntriesK X.prog X.w bs s.heap (PyData.depthKv kvs) es (PyData.shownKv kvs)
  | [], _, _, _, h, r, p, _, _ => by cases h; cases r; cases p; exact ⟨[], (fun _ h => nomatch h), by simp only [PyData.shownKv]; exact .nil⟩
  | (kd, d) :: kvs, _, _, _, h, r, p, hs, hz => by
    have hs' : (kd.showable = true ∧ d.showable = true) ∧ PyData.showableKv kvs = true := by simpa [PyData.showableKv] using hs
    have hz1 : (kd.shown ++ ": " ++ d.shown).length ≤ sizeLine := hz _ (by simp only [PyData.shownKv]; exact List.mem_cons_self ..)
    rw [strLen_append, strLen_append] at hz1
    cases h with
    | @cons k v ks0 _ _ h1 h2 =>
      cases r with
      | cons r1 r2 =>
        cases p with
        | @cons e' kv' es' kvs' p1 p2 p3 =>
          obtain ⟨b1, hb1, k1⟩ := Rp.reprs I sub d _ _ h1 r1.2 hs'.1.2 (by omega)
          obtain ⟨b2, hb2, k2⟩ := RpK.reprs I sub kvs _ _ _ h2 r2 p3 hs'.2 fun t ht => hz t (by simp only [PyData.shownKv]; exact List.mem_cons_of_mem _ ht)
          have hk : keyIs k e'.key = true := by rw [show k = _ from r1.1]; exact p1
          have kk : ReprK X.prog X.w [] s.heap 0 e'.key (keyD k).shown := by
            rcases keyIs_shape hk with ⟨j, t, rfl, e⟩ | ⟨y, t, rfl, e⟩
            · rw [e]; simp only [keyD, PyData.shown]; exact .of_is (ReprIs.int t (by simpa [keyD, PyData.showable] using hs'.1.1)) _ _ _
            · rw [e]; simp only [keyD, PyData.shown]; exact .of_is (ReprIs.str y t (by simp only [keyD, PyData.shown] at hz1; omega)) _ _ _
          refine ⟨b1 ++ b2, (hb1.mono (by simp only [PyData.depthKv]; omega)).append (hb2.mono (by simp only [PyData.depthKv]; omega)), ?_⟩
          simp only [PyData.depthKv, PyData.shownKv]
          have q2 : ReprK X.prog X.w (b1 ++ b2) s.heap (max (max (keyD k).depth d.depth) (PyData.depthKv kvs)) e'.val d.shown := by
            rw [p2]; exact (k1.more fun b hb => List.mem_append_left _ hb).level_le (by omega)
          have q3 : ∀ {es : List DictEntry} {ps : List Str}, ReprEntriesK X.prog X.w b2 s.heap (PyData.depthKv kvs) es ps → ReprEntriesK X.prog X.w (b1 ++ b2) s.heap (max (max (keyD k).depth d.depth) (PyData.depthKv kvs)) es ps := fun h => by
            induction h with
            | nil => exact .nil
            | cons a b _ ih => exact .cons ((a.more fun b hb => List.mem_append_right _ hb).level_le (by omega)) ((b.more fun b hb => List.mem_append_right _ hb).level_le (by omega)) ih
          exact .cons ((kk.more fun b hb => nomatch hb).level_le (by omega)) q2 (q3 k2)
end
end DL
end

section
set_option Elab.async false
set_option linter.all false
set_option maxRecDepth 100000
set_option maxHeartbeats 4000000
/-! DL7: the operators and built-ins on data. -/
namespace DL
open PySem PySem.Spec PyProof.Rows L2

theorem _root_.L2.OpR.imp {X : Cx} {f : Value → Value → Sem Value} {r r' : R2} (h : OpR X f r) (hi : ∀ x y H Q, r' x y H Q → r x y H Q) : OpR X f r' := fun pins s σ H x y v u Q I rx ry q => h pins s σ H x y v u Q I rx ry (hi _ _ _ _ q)
theorem _root_.L2.CallR.imp {X : Cx} {f : Value} {r r' : List V → Hp → VK → Prop} (h : CallR X f r) (hi : ∀ xs H Q, r' xs H Q → r xs H Q) : CallR X f r' := fun pins s σ H xs us Q I rx q => h pins s σ H xs us Q I rx (hi _ _ _ q)
def lim {α : Type} (n : Nat) (x : α) : Option α := if n ≤ 1000000 then some x else none
theorem lim_some {α : Type} {n : Nat} {x y : α} (h : lim n x = some y) : x = y ∧ n ≤ sizeLine := by
  unfold lim at h
  by_cases hl : n ≤ 1000000
  · rw [if_pos hl] at h; cases h; exact ⟨rfl, Nat.le_of_lt (Nat.lt_of_le_of_lt hl (by decide))⟩
  · rw [if_neg hl] at h; cases h
section
variable {X : Cx}
/-! tuples made: each is kept as the object that it is -/
def rCatZ (K : PySem.W.Frag) : R2 := fun x y H Q => ∃ a b xs ys, x = .ref a ∧ y = .ref b ∧ SqT K H a xs ∧ SqT K H b ys ∧ xs.length + ys.length ≤ sizeLine ∧
  (xs = [] → Q (.ref b) H) ∧ (ys = [] → Q (.ref a) H) ∧ (∀ p o, H p = none → o.dict = none → Q (.ref p) (upd H p (.frz o (.tup (xs ++ ys)))))
theorem op_catZ : OpR X (binaryOp .Add) (rCatZ X.K) := by
  intro pins s σ H x y v u Q I rx ry ⟨a, b, xs, ys, ex, ey, ha, hb, hz, q0, q1, q2⟩
  subst ex
  subst ey
  obtain rfl : v = Value.ref a := rx
  obtain rfl : u = Value.ref b := ry
  obtain ⟨its, r1, p1, _⟩ := I.tuple ha
  obtain ⟨its2, r2, p2, _⟩ := I.tuple hb
  by_cases hx : xs = []
  · subst hx
    cases r1
    exact cat_tup0 p1 p2 ⟨.ref b, H, I, rfl, q0 rfl⟩
  · refine HT.cat_tup p1 p2 (fun z => hx (r1.nil_iff.mp z)) (fun z => ⟨.ref a, H, I, rfl, q1 (r2.nil_iff.mp z)⟩) (fun z => ?_) (by rw [← r1.length, ← r2.length]; exact hz)
    exact ⟨.ref s.heap.objs.size, _, I.laid (t' := s.toks) (o := .frz _ (.tup (xs ++ ys))) (fun b ob q => Heap.get?_push_of_some _ q) (Nat.le_refl _)
      ⟨Heap.get?_push_size _ rfl, by rw [List.length_append]; exact hz, _, r1.append r2, IsTup.new _ _⟩, rfl, q2 _ _ (I.hok.fresh (Nat.le_refl _)) rfl⟩
theorem call_tupleZ : CallR X (.type "tuple") (fun xs H Q => ∃ p ys, xs = [.ref p] ∧ ((SqL X.K H p ys ∧ ∀ l o, H l = none → o.dict = none → Q (.ref l) (upd H l (.frz o (.tup ys)))) ∨ (SqT X.K H p ys ∧ Q (.ref p) H))) := by
  intro pins s σ H xs us Q I r ⟨p, ys, ex, h⟩
  subst ex
  obtain ⟨u, rfl, rx⟩ := vals1 r
  obtain rfl : u = Value.ref p := rx
  rcases h with ⟨hq, q⟩ | ⟨hq, q⟩
  · obtain ⟨its, r', pl, hz⟩ := I.list hq
    have hlen := r'.length
    refine call_tuple_list pl.isList (fun h' kp => ?_) (by simp only [List.size_toArray] <;> omega)
    have I1 : Inv X pins σ H { s with heap := h' } := I.kept (t' := s.toks) kp
    exact ⟨.ref h'.objs.size, _, I1.laid (t' := s.toks) (o := .frz _ (.tup ys)) (fun b o e => Heap.get?_push_of_some _ e) (Nat.le_refl _) ⟨Heap.get?_push_size _ rfl, hz, its, r', IsTup.new _ _⟩, rfl, q _ _ (I1.hok.fresh (Nat.le_refl _)) rfl⟩
  · obtain ⟨its, r', pl, hz⟩ := I.tuple hq
    exact call_tuple_same pl ⟨.ref p, H, I, rfl, q⟩
def addD : PyData → PyData → Option PyData
  | .int i, .int j => some (.int (i + j))
  | .str x, .str y => lim (x.length + y.length) (.str (x ++ y))
  | .tuple xs, .tuple ys => lim (xs.length + ys.length) (.tuple (xs ++ ys))
  | .list xs, .list ys => lim (xs.length + ys.length) (.list (xs ++ ys))
  | _, _ => none
theorem opd_add : OpD X (binaryOp .Add) addD := (op_add.or (op_add_str.or (op_catZ.or op_cat))).imp fun x y H Q ⟨g, F, st, d, e, r, b, r1, r2, h, q⟩ => by
  unfold addD at h
  split at h
  · cases h; cases r1.int; cases r2.int; exact .inl ⟨_, _, rfl, rfl, q _ H F b (.int _)⟩
  · obtain ⟨rfl, hz⟩ := lim_some h; cases r1.str; cases r2.str; exact .inr (.inl ⟨_, _, rfl, rfl, hz, q _ H F b (.str _)⟩)
  · rename_i xs ys
    obtain ⟨rfl, hz⟩ := lim_some h
    obtain ⟨a, vs, rfl, h1, h2, h3⟩ := r1.tuple b.sub
    obtain ⟨c, ws, rfl, k1, k2, k3⟩ := r2.tuple b.sub
    refine .inr (.inr (.inl ⟨a, c, vs, ws, rfl, rfl, h2, k2, by rw [h3.length, k3.length]; exact hz, fun e => ?_, fun e => ?_, fun p o hp ho => ?_⟩))
    · subst e; cases h3; rw [List.nil_append] at q; exact q _ H F b (.tup k1 k3)
    · subst e; cases k3; rw [List.append_nil] at q; exact q _ H F b (.tup h1 h3)
    · obtain ⟨b3, r3⟩ := b.tupNew hp ho (h3.append k3); exact q _ _ _ b3 r3
  · obtain ⟨rfl, hz⟩ := lim_some h
    obtain ⟨a, vs, rfl, h2, h3⟩ := r1.list b.sub
    obtain ⟨c, ws, rfl, k2, k3⟩ := r2.list b.sub
    exact .inr (.inr (.inr ⟨a, c, vs, ws, rfl, rfl, h2, k2, by rw [h3.length, k3.length]; exact hz, fun p hp => let ⟨b3, r3⟩ := b.lstNew hp (h3.append k3); q _ _ _ b3 r3⟩))
  · cases h
def addL : PyData → PyData → Option (List PyData)
  | .list xs, .list ys => lim (xs.length + ys.length) (xs ++ ys)
  | _, _ => none
theorem opf_add : OpF X (binaryOp .Add) addL := op_cat.imp fun x y H Q ⟨g, F, st, d, e, r, b, r1, r2, h, q⟩ => by
  unfold addL at h
  split at h
  · obtain ⟨rfl, hz⟩ := lim_some h
    obtain ⟨a, vs, rfl, h2, h3⟩ := r1.list b.sub
    obtain ⟨c, ws, rfl, k2, k3⟩ := r2.list b.sub
    exact ⟨a, c, vs, ws, rfl, rfl, h2, k2, by rw [h3.length, k3.length]; exact hz, fun p hp => q p _ _ F (b.newH hp) hp upd_same (noneF b hp) (h3.append k3)⟩
  · cases h
def subD : PyData → PyData → Option PyData
  | .int i, .int j => some (.int (i - j))
  | _, _ => none
theorem opd_sub : OpD X (binaryOp .Sub) subD := op_sub.imp fun x y H Q ⟨g, F, st, d, e, r, b, r1, r2, h, q⟩ => by
  unfold subD at h
  split at h
  · cases h; cases r1.int; cases r2.int; exact ⟨_, _, rfl, rfl, q _ H F b (.int _)⟩
  · cases h
def mulD : PyData → PyData → Option PyData
  | .int i, .int j => if j.natAbs < 1152921504606846976 ∨ i.natAbs < 1152921504606846976 ∨ i.natAbs.log2 + j.natAbs.log2 < 1000000 then some (.int (i * j)) else none
  | _, _ => none
theorem RpA.rep {K : PySem.W.Frag} {F : Hp} {vs : List V} {ds : List PyData} (h : RpA K F vs ds) : ∀ n : Nat, RpA K F (List.replicate n vs).flatten (List.replicate n ds).flatten
  | 0 => .nil
  | n + 1 => by
    rw [List.replicate_succ, List.replicate_succ, List.flatten_cons, List.flatten_cons]
    exact h.append (RpA.rep h n)
theorem p64 : (2 : Int) ^ 64 = 18446744073709551616 := by decide
theorem opd_mul : OpD X (binaryOp .Mult) mulD := (op_mulW.or op_mul).imp fun x y H Q ⟨g, F, st, d, e, r, b, r1, r2, h, q⟩ => by
  unfold mulD at h
  split at h
  · split at h
    · rename_i hc
      cases h
      cases r1.int
      cases r2.int
      rcases hc with hc | hc | hc
      · exact .inr ⟨_, _, rfl, rfl, .inr (by rw [p64]; omega), q _ H F b (.int _)⟩
      · exact .inr ⟨_, _, rfl, rfl, .inl (by rw [p64]; omega), q _ H F b (.int _)⟩
      · exact .inl ⟨_, _, rfl, rfl, hc, q _ H F b (.int _)⟩
    · cases h
  · cases h
def repL : PyData → PyData → Option (List PyData)
  | .list xs, .int k => if 0 ≤ k ∧ k < 1000000 ∧ xs.length * k.toNat ≤ 1000000 then some (List.replicate k.toNat xs).flatten else none
  | _, _ => none
theorem opf_rep : OpF X (binaryOp .Mult) repL := op_rep.imp fun x y H Q ⟨g, F, st, d, e, r, b, r1, r2, h, q⟩ => by
  unfold repL at h
  split at h
  · split at h
    · rename_i xs k hc
      cases h
      obtain ⟨a, vs, rfl, h2, h3⟩ := r1.list b.sub
      cases r2.int
      obtain ⟨c1, c2, c3⟩ := hc
      exact ⟨a, k, vs, rfl, rfl, h2, by omega, by omega, by rw [h3.length]; have : (1000000 : Nat) < sizeLine := by decide
                                                            omega, fun p hp => q p _ _ F (b.newH hp) hp upd_same (noneF b hp) (h3.rep k.toNat)⟩
    · cases h
  · cases h
def fdivD : PyData → PyData → Option PyData
  | .int i, .int j => if 0 < j ∧ j.natAbs.log2 < 9000 then some (.int (i / j)) else if j ≠ 0 ∧ j.natAbs < 1073741824 then some (.int (i.fdiv j)) else none
  | _, _ => none
theorem opd_fdiv : OpD X (binaryOp .FloorDiv) fdivD := (op_fdivW.or op_fdivN).imp fun x y H Q ⟨g, F, st, d, e, r, b, r1, r2, h, q⟩ => by
  unfold fdivD at h
  split at h
  · split at h
    · rename_i hc; cases h; cases r1.int; cases r2.int; exact .inl ⟨_, _, rfl, rfl, hc, q _ H F b (.int _)⟩
    · split at h
      · rename_i hc; cases h; cases r1.int; cases r2.int; exact .inr ⟨_, _, rfl, rfl, hc, q _ H F b (.int _)⟩
      · cases h
  · cases h
def modD : PyData → PyData → Option PyData
  | .int i, .int j => if 0 < j then some (.int (i % j)) else if j ≠ 0 then some (.int (i.fmod j)) else none
  | _, _ => none
theorem opd_mod : OpD X (binaryOp .Mod) modD := (op_mod.or op_modN).imp fun x y H Q ⟨g, F, st, d, e, r, b, r1, r2, h, q⟩ => by
  unfold modD at h
  split at h
  · split at h
    · rename_i hc; cases h; cases r1.int; cases r2.int; exact .inl ⟨_, _, rfl, rfl, hc, q _ H F b (.int _)⟩
    · split at h
      · rename_i hc; cases h; cases r1.int; cases r2.int; exact .inr ⟨_, _, rfl, rfl, hc, q _ H F b (.int _)⟩
      · cases h
  · cases h
def powD : PyData → PyData → Option PyData
  | .int i, .int j => if 0 ≤ j ∧ j ≤ 1000000 ∧ i.natAbs < 2 ^ 64 then some (.int (i ^ j.toNat)) else none
  | _, _ => none
theorem opd_pow : OpD X (binaryOp .Pow) powD := op_pow.imp fun x y H Q ⟨g, F, st, d, e, r, b, r1, r2, h, q⟩ => by
  unfold powD at h
  split at h
  · split at h
    · rename_i hc; cases h; cases r1.int; cases r2.int; exact ⟨_, _, rfl, rfl, hc, q _ H F b (.int _)⟩
    · cases h
  · cases h
def negD : PyData → Option PyData
  | .int i => some (.int (-i))
  | _ => none
def mUn (φ : PyData → Option PyData) (m : Ev → M PyData) : Ev → M PyData := fun ρ => do let d ← m ρ; lft (φ d)
theorem se_neg {e : Expr} {m : Ev → M PyData} {pos : Pos} (h : SB X e m) : SE X (.UnaryOp .USub e pos) (mUn negD m) := fun g H0 F0 => (pe_un un_neg (h g H0 F0)).imp fun σ H Q ⟨ρ, F, st, d, st', b, s, e, q⟩ => by
  obtain ⟨x, st1, e1, e2⟩ := bnd e
  obtain ⟨e3, rfl⟩ := lfts e2
  refine ⟨ρ, F, st, x, st', b, s, e1, fun v H' F' b' r => ?_⟩
  cases x <;> first | cases e3 | skip
  cases r.int
  exact ⟨_, rfl, q _ H' F' b' (.int _)⟩
def cmpI (p : Int → Int → Bool) : PyData → PyData → Option PyData
  | .int i, .int j => some (.bool (p i j))
  | _, _ => none
def ltD : PyData → PyData → Option PyData := cmpI fun i j => decide (i < j)
def leD : PyData → PyData → Option PyData := cmpI fun i j => decide (i ≤ j)
def gtD : PyData → PyData → Option PyData := cmpI fun i j => decide (j < i)
def geD : PyData → PyData → Option PyData := cmpI fun i j => decide (j ≤ i)
theorem opd_cmp {op : CmpOp} {p : Int → Int → Bool} (ho : OpR X (compareOp op) (rI0 fun i j => .bl (p i j))) : OpD X (compareOp op) (cmpI p) := ho.imp fun x y H Q ⟨g, F, st, d, e, r, b, r1, r2, h, q⟩ => by
  unfold cmpI at h
  split at h
  · cases h; cases r1.int; cases r2.int; exact ⟨_, _, rfl, rfl, q _ H F b (.bl _)⟩
  · cases h
theorem opd_lt : OpD X (compareOp .Lt) ltD := opd_cmp op_lt
theorem opd_le : OpD X (compareOp .LtE) leD := opd_cmp op_le
theorem opd_gt : OpD X (compareOp .Gt) gtD := opd_cmp op_gt
theorem opd_ge : OpD X (compareOp .GtE) geD := opd_cmp op_ge
/-- == of data without dicts, at most sixty deep (the one of them); of lists of other lengths -/
def eqF (x y : PyData) : Option Bool := if x.plain = true ∧ y.plain = true ∧ (x.depth ≤ 60 ∨ y.depth ≤ 60) then some (PyData.eqv x y) else match x, y with
  | .list xs, .list ys => if xs.length ≠ ys.length then some false else none
  | _, _ => none
def eqD (x y : PyData) : Option PyData := (eqF x y).map .bool
def neD (x y : PyData) : Option PyData := (eqF x y).map fun b => .bool (!b)
theorem eqF_cases {x y : PyData} {b : Bool} (h : eqF x y = some b) : (x.plain = true ∧ y.plain = true ∧ (x.depth ≤ 60 ∨ y.depth ≤ 60) ∧ b = PyData.eqv x y) ∨ ∃ xs ys, x = .list xs ∧ y = .list ys ∧ xs.length ≠ ys.length ∧ b = false := by
  unfold eqF at h
  split at h
  · rename_i hc
    cases h
    exact .inl ⟨hc.1, hc.2.1, hc.2.2, rfl⟩
  · split at h
    · split at h
      · rename_i hl
        cases h
        exact .inr ⟨_, _, rfl, rfl, hl, rfl⟩
      · cases h
    · cases h
theorem size_ne {vs ws : List V} {its jts : List Value} (r1 : Vals vs its) (r2 : Vals ws jts) (h : vs.length ≠ ws.length) : (its.toArray.size != jts.toArray.size) = true := by
  have e1 := r1.length
  have e2 := r2.length
  simp at e1 e2 ⊢
  omega
theorem opd_eq (hu : X.A.units + 64 < cLine) : OpD X (compareOp .Eq) eqD := fun pins s σ H x y v u Q I rx ry ⟨g, F, st, d, e, r, b, r1, r2, h, q⟩ => by
  obtain ⟨k, h', rfl⟩ := Option.map_eq_some_iff.mp h
  rcases eqF_cases h' with ⟨h1, h2, h3, rfl⟩ | ⟨xs, ys, rfl, rfl, hl, rfl⟩
  · obtain ⟨as, q1⟩ := r1.reads I b.sub rx
    obtain ⟨bs, q2⟩ := r2.reads I b.sub ry
    exact PySem.SeqAt.eq_plain q1 q2 h1 h2 (by omega) ⟨.bl _, H, I, rfl, q _ H F b (.bl _)⟩
  · obtain ⟨a, vs, rfl, h1, h2⟩ := r1.list b.sub
    obtain ⟨c, ws, rfl, h3, h4⟩ := r2.list b.sub
    cases rx
    cases ry
    obtain ⟨its, p1, p2, _⟩ := I.list (SqL.of h1)
    obtain ⟨jts, p3, p4, _⟩ := I.list (SqL.of h3)
    exact PySem.SeqAt.RcAt.lists_lengths p2.isList p4.isList (size_ne p1 p3 (by rw [h2.length, h4.length]; exact hl)) (by omega) _ _ _ _ ⟨.bl _, H, I, rfl, q _ H F b (.bl _)⟩
theorem opd_ne (hu : X.A.units + 64 < cLine) : OpD X (compareOp .NotEq) neD := fun pins s σ H x y v u Q I rx ry ⟨g, F, st, d, e, r, b, r1, r2, h, q⟩ => by
  obtain ⟨k, h', rfl⟩ := Option.map_eq_some_iff.mp h
  rcases eqF_cases h' with ⟨h1, h2, h3, rfl⟩ | ⟨xs, ys, rfl, rfl, hl, rfl⟩
  · obtain ⟨as, q1⟩ := r1.reads I b.sub rx
    obtain ⟨bs, q2⟩ := r2.reads I b.sub ry
    exact PySem.SeqAt.ne_plain q1 q2 h1 h2 (by omega) ⟨.bl _, H, I, rfl, q _ H F b (.bl _)⟩
  · obtain ⟨a, vs, rfl, h1, h2⟩ := r1.list b.sub
    obtain ⟨c, ws, rfl, h3, h4⟩ := r2.list b.sub
    cases rx
    cases ry
    obtain ⟨its, p1, p2, _⟩ := I.list (SqL.of h1)
    obtain ⟨jts, p3, p4, _⟩ := I.list (SqL.of h3)
    exact PySem.SeqAt.RcNeAt.lists_lengths p2.isList p4.isList (size_ne p1 p3 (by rw [h2.length, h4.length]; exact hl)) (by omega) _ _ _ _ ⟨.bl _, H, I, rfl, q _ H F b (.bl _)⟩
def isN : PyData → Bool
  | .none => true
  | _ => false
def mIsN (m : Ev → M PyData) : Ev → M PyData := fun ρ => do let d ← m ρ; pure (.bool (isN d))
def mIsNot (m : Ev → M PyData) : Ev → M PyData := fun ρ => do let d ← m ρ; pure (.bool (!isN d))
theorem isN_eq {K : PySem.W.Frag} {g : Gh} {H F : Hp} {v : V} {d : PyData} (r : RpB K g H F v d) : decide (v = .non) = isN d := by
  cases d with
  | none => cases r.none; rfl
  | bool _ => cases r.bool; rfl
  | int _ => cases r.int; rfl
  | str _ => cases r.str; rfl
  | list _ => rcases r with r | ⟨a, vs, ds, rfl, _⟩ | ⟨a, ks, kvs, rfl, _⟩ <;> first | rfl | (cases r; rfl)
  | tuple _ => rcases r with r | ⟨a, vs, ds, rfl, _⟩ | ⟨a, ks, kvs, rfl, _⟩ <;> first | rfl | (cases r; rfl)
  | dict _ => rcases r with r | ⟨a, vs, ds, rfl, _⟩ | ⟨a, ks, kvs, rfl, _⟩ <;> first | rfl | (cases r; rfl)
theorem se_isN {e : Expr} {m : Ev → M PyData} {pos pos' : Pos} {j : Nat} (h : SB X e m) : SE X (.Compare e [.Is] [.Constant .none j pos'] pos) (mIsN m) := fun g H0 F0 => (pe_cmp (pc_isN (h g H0 F0))).imp fun σ H Q ⟨ρ, F, st, d, st', b, s, e, q⟩ => by
  obtain ⟨x, st1, e1, e2⟩ := bnd e
  obtain ⟨rfl, rfl⟩ := purs e2
  exact ⟨ρ, F, st, x, st', b, s, e1, fun v H' F' b' r => by show Q (.bl (decide (v = .non))) H'; rw [isN_eq r]; exact q _ H' F' b' (.bl _)⟩
theorem se_isNot {e : Expr} {m : Ev → M PyData} {pos pos' : Pos} {j : Nat} (h : SB X e m) : SE X (.Compare e [.IsNot] [.Constant .none j pos'] pos) (mIsNot m) := fun g H0 F0 => (pe_cmp (pc_notN (h g H0 F0))).imp fun σ H Q ⟨ρ, F, st, d, st', b, s, e, q⟩ => by
  obtain ⟨x, st1, e1, e2⟩ := bnd e
  obtain ⟨rfl, rfl⟩ := purs e2
  exact ⟨ρ, F, st, x, st', b, s, e1, fun v H' F' b' r => by show Q (.bl (!decide (v = .non))) H'; rw [isN_eq r]; exact q _ H' F' b' (.bl _)⟩
/-- .. as tests -/
theorem st_isN {e : Expr} {m : Ev → M PyData} {pos pos' : Pos} {j : Nat} (h : SB X e m) : STs X (.Compare e [.Is] [.Constant .none j pos'] pos) (mAsB (mIsN m)) := fun g H0 F0 => (pt_cmp (pc_isN (h g H0 F0))).imp fun σ H Q ⟨ρ, F, st, k, st', b, s, e, q⟩ => by
  obtain ⟨d, st0, e0, f0⟩ := bnd e
  obtain ⟨x, st1, e1, e2⟩ := bnd e0
  obtain ⟨rfl, rfl⟩ := purs e2
  obtain ⟨e3, rfl⟩ := lfts f0
  cases (asB_some e3)
  exact ⟨ρ, F, st, x, st', b, s, e1, fun v H' F' b' r => ⟨_, rfl, by rw [isN_eq r]; exact q H' F' b'⟩⟩
theorem st_isNot {e : Expr} {m : Ev → M PyData} {pos pos' : Pos} {j : Nat} (h : SB X e m) : STs X (.Compare e [.IsNot] [.Constant .none j pos'] pos) (mAsB (mIsNot m)) := fun g H0 F0 => (pt_cmp (pc_notN (h g H0 F0))).imp fun σ H Q ⟨ρ, F, st, k, st', b, s, e, q⟩ => by
  obtain ⟨d, st0, e0, f0⟩ := bnd e
  obtain ⟨x, st1, e1, e2⟩ := bnd e0
  obtain ⟨rfl, rfl⟩ := purs e2
  obtain ⟨e3, rfl⟩ := lfts f0
  cases (asB_some e3)
  exact ⟨ρ, F, st, x, st', b, s, e1, fun v H' F' b' r => ⟨_, rfl, by rw [isN_eq r]; exact q H' F' b'⟩⟩

/-! ### chains -/
def mChain (φ ψ : PyData → PyData → Option PyData) (ma mb mc : Ev → M PyData) : Ev → M PyData := fun ρ => do
  let x ← ma ρ
  let y ← mb ρ
  let z ← lft (φ x y)
  let k ← lft (asB z)
  if k then (do let w ← mc ρ; lft (ψ y w)) else pure (.bool false)

/-! ### built-ins -/
def tyD : PyData → String
  | .none => "NoneType"
  | .bool _ => "bool"
  | .int _ => "int"
  | .str _ => "str"
  | .list _ => "list"
  | .tuple _ => "tuple"
  | .dict _ => "dict"
def isD (n : String) (d : PyData) : Option Bool := kitB (tyD d) n
theorem RpB.ty {K : PySem.W.Frag} {g : Gh} {H F : Hp} {v : V} {d : PyData} (sub : Same F H) (r : RpB K g H F v d) : TyX K H v (.type (tyD d)) := by
  cases d with
  | none => cases r.none; exact .base .non
  | bool _ => cases r.bool; exact .base (.bl _)
  | int _ => cases r.int; exact .base (.int _)
  | str _ => cases r.str; exact .base (.str _)
  | list _ => obtain ⟨a, vs, rfl, h, _⟩ := r.list sub; exact .base (.lst h)
  | tuple _ =>
    obtain ⟨a, vs, rfl, _, h, _⟩ := r.tuple sub
    rcases h with (h | ⟨o, h⟩) | ⟨o, its, n, h, hc, _⟩
    · exact .base (.tup h)
    · exact .fTuple h
    · exact .kTuple h hc
  | dict _ =>
    obtain ⟨a, vs, rfl, h, _⟩ := r.dict sub
    rcases h with h | ⟨o, h⟩
    · exact .base (.dK h)
    · exact .fDict h
def mIsi (n : String) (m : Ev → M PyData) : Ev → M PyData := fun ρ => do let d ← m ρ; let b ← lft (isD n d); pure (.bool b)
theorem se_isi {n : String} {y : Str} {e : Expr} {m : Ev → M PyData} {p py pos : Pos} (hm : X.mg "isinstance" = none) (h : SB X e m) (hmy : X.mg y = none) (hvy : bootBuiltins y = some (.type n) := by decide +kernel) (hgy : Gl X y := by rfl) (hg : Gl X "isinstance" := by rfl) (hny : y ≠ "__name__" := by decide) (hdy : (y == ("__debug__" : Str)) = false := by decide)
    (hv : bootBuiltins "isinstance" = some (.builtin "isinstance") := by decide +kernel) (he0 : starEach [e, .Name y py] X.env = (false, eval e X.env) :: starEach [.Name y py] X.env := by rfl) (he1 : starEach [.Name y py] X.env = (false, eval (.Name y py) X.env) :: starEach [] X.env := by rfl) (hpl : (backTo pos (starEach [.Name y py] X.env)).any (·.1) = false := by rfl) :
    SE X (.Call (.Name "isinstance" p) [e, .Name y py] [] pos) (mIsi n m) := fun g H0 F0 => (pe_callB call_isi hg hm hv (pa_cons (h g H0 F0) (pa_cons (pe_bltn (v := .ty n) hgy hmy hvy rfl hny hdy) pa_nil he1) he0) (by decide) (by decide) he0 hpl).imp fun σ H Q ⟨ρ, F, st, d, st', b, s, e, q⟩ => by
  obtain ⟨x, st1, e1, f1⟩ := bnd e
  obtain ⟨k, st2, e2, f2⟩ := bnd f1
  obtain ⟨e3, rfl⟩ := lfts e2
  obtain ⟨rfl, rfl⟩ := purs f2
  exact ⟨ρ, F, st, x, st', b, s, e1, fun v H' F' b' r => ⟨v, .ty n, _, _, k, rfl, .ty n, r.ty b'.sub, kit_ty e3, q _ H' F' b' (.bl _)⟩⟩
def lenD : List PyData → Option PyData
  | [.list ds] => some (.int ds.length)
  | [.tuple ds] => some (.int ds.length)
  | [.str x] => lim x.length (.int x.length)
  | _ => none
theorem RpBs.one {K : PySem.W.Frag} {g : Gh} {H F : Hp} {vs : List V} {d : PyData} (r : RpBs K g H F vs [d]) : ∃ v, vs = [v] ∧ RpB K g H F v d := by
  cases r with
  | cons r1 r2 => cases r2; exact ⟨_, rfl, r1⟩
theorem RpBs.two {K : PySem.W.Frag} {g : Gh} {H F : Hp} {vs : List V} {d e : PyData} (r : RpBs K g H F vs [d, e]) : ∃ v w, vs = [v, w] ∧ RpB K g H F v d ∧ RpB K g H F w e := by
  cases r with
  | cons r1 r2 => cases r2 with
    | cons r3 r4 => cases r4; exact ⟨_, _, rfl, r1, r3⟩
theorem cd_len : CallD X (.builtin "len") lenD := (call_len_seq.or call_len_str).imp fun xs H Q ⟨g, F, st, ds, r, b, rs, h, q⟩ => by
  unfold lenD at h
  split at h
  · cases h
    obtain ⟨v, rfl, r1⟩ := rs.one
    obtain ⟨a, vs, rfl, h2, h3⟩ := r1.list b.sub
    refine .inl ⟨a, vs, rfl, .inl (SqL.of h2), ?_⟩
    rw [h3.length]
    exact q _ H F b (.int _)
  · cases h
    obtain ⟨v, rfl, r1⟩ := rs.one
    obtain ⟨a, vs, rfl, h1, h2, h3⟩ := r1.tuple b.sub
    refine .inl ⟨a, vs, rfl, .inr h2, ?_⟩
    rw [h3.length]
    exact q _ H F b (.int _)
  · obtain ⟨rfl, hz⟩ := lim_some h
    obtain ⟨v, rfl, r1⟩ := rs.one
    cases r1.str
    exact .inr ⟨_, rfl, hz, q _ H F b (.int _)⟩
  · cases h
def absD : List PyData → Option PyData
  | [.int i] => some (.int (if i < 0 then -i else i))
  | _ => none
theorem cd_abs : CallD X (.builtin "abs") absD := call_abs.imp fun xs H Q ⟨g, F, st, ds, r, b, rs, h, q⟩ => by
  unfold absD at h
  split at h
  · cases h
    obtain ⟨v, rfl, r1⟩ := rs.one
    cases r1.int
    exact ⟨_, rfl, q _ H F b (.int _)⟩
  · cases h
def intD : List PyData → Option PyData
  | [.int i] => some (.int i)
  | _ => none
theorem cd_int : CallD X (.type "int") intD := call_int1.imp fun xs H Q ⟨g, F, st, ds, r, b, rs, h, q⟩ => by
  unfold intD at h
  split at h
  · cases h
    obtain ⟨v, rfl, r1⟩ := rs.one
    cases r1.int
    exact .inl ⟨_, rfl, q _ H F b (.int _)⟩
  · cases h
def gcdD : List PyData → Option PyData
  | [.int i, .int j] => some (.int (Nat.gcd i.natAbs j.natAbs : Nat))
  | _ => none
theorem cd_gcd : CallD X (.builtin "math.gcd") gcdD := cr_gcd.imp fun xs H Q ⟨g, F, st, ds, r, b, rs, h, q⟩ => by
  unfold gcdD at h
  split at h
  · cases h
    obtain ⟨v, w, rfl, r1, r2⟩ := rs.two
    cases r1.int
    cases r2.int
    exact ⟨_, _, rfl, q _ H F b (.int _)⟩
  · cases h
def intsOf : List PyData → Option (List Int)
  | [] => some []
  | d :: ds => do let i ← asI d; let is ← intsOf ds; pure (i :: is)
theorem intsOf_some : ∀ {ds : List PyData} {ns : List Int}, intsOf ds = some ns → ds = ns.map PyData.int
  | [], ns, h => by cases h; rfl
  | d :: ds, ns, h => by
    have h' : ((asI d).bind fun i => (intsOf ds).bind fun is => some (i :: is)) = some ns := h
    obtain ⟨i, e1, h1⟩ := Option.bind_eq_some_iff.mp h'
    obtain ⟨is, e2, h2⟩ := Option.bind_eq_some_iff.mp h1
    cases h2
    rw [asI_some e1, intsOf_some e2]; rfl
theorem intsOf_ints : ∀ ns : List Int, intsOf (ns.map PyData.int) = some ns
  | [] => rfl
  | n :: ns => by
    show ((asI (.int n)).bind fun i => (intsOf (ns.map PyData.int)).bind fun is => some (i :: is)) = _
    rw [intsOf_ints ns]; rfl
def boolsOf : List PyData → Option (List Bool)
  | [] => some []
  | d :: ds => do let i ← asB d; let is ← boolsOf ds; pure (i :: is)
theorem boolsOf_some : ∀ {ds : List PyData} {ns : List Bool}, boolsOf ds = some ns → ds = ns.map PyData.bool
  | [], ns, h => by cases h; rfl
  | d :: ds, ns, h => by
    have h' : ((asB d).bind fun i => (boolsOf ds).bind fun is => some (i :: is)) = some ns := h
    obtain ⟨i, e1, h1⟩ := Option.bind_eq_some_iff.mp h'
    obtain ⟨is, e2, h2⟩ := Option.bind_eq_some_iff.mp h1
    cases h2
    rw [asB_some e1, boolsOf_some e2]; rfl
theorem boolsOf_bools : ∀ ns : List Bool, boolsOf (ns.map PyData.bool) = some ns
  | [] => rfl
  | n :: ns => by
    show ((asB (.bool n)).bind fun i => (boolsOf (ns.map PyData.bool)).bind fun is => some (i :: is)) = _
    rw [boolsOf_bools ns]; rfl
def sumD : List PyData → Option PyData
  | [.list ds] => (intsOf ds).map fun ns => .int ns.sum
  | _ => none
theorem cd_sum (hc : X.calm = true) : CallD X (.builtin "sum") sumD := (cr_sum hc).imp fun xs H Q ⟨g, F, st, ds, r, b, rs, h, q⟩ => by
  unfold sumD at h
  split at h
  · obtain ⟨ns, e1, rfl⟩ := Option.map_eq_some_iff.mp h
    cases intsOf_some e1
    obtain ⟨v, rfl, r1⟩ := rs.one
    obtain ⟨a, vs, rfl, h2, h3⟩ := r1.list b.sub
    cases h3.of_ints
    exact ⟨a, ns, rfl, SqL.of h2, q _ H F b (.int _)⟩
  · cases h
def allD : List PyData → Option PyData
  | [.list ds] => (boolsOf ds).map fun ns => .bool (ns.all id)
  | _ => none
theorem cd_all (hc : X.calm = true) : CallD X (.builtin "all") allD := (cr_all hc).imp fun xs H Q ⟨g, F, st, ds, r, b, rs, h, q⟩ => by
  unfold allD at h
  split at h
  · obtain ⟨ns, e1, rfl⟩ := Option.map_eq_some_iff.mp h
    cases boolsOf_some e1
    obtain ⟨v, rfl, r1⟩ := rs.one
    obtain ⟨a, vs, rfl, h2, h3⟩ := r1.list b.sub
    cases h3.of_bools
    exact ⟨a, ns, rfl, SqL.of h2, q _ H F b (.bl _)⟩
  · cases h
def anyD : List PyData → Option PyData
  | [.list ds] => (boolsOf ds).map fun ns => .bool (ns.any id)
  | _ => none
theorem cd_any (hc : X.calm = true) : CallD X (.builtin "any") anyD := (cr_any hc).imp fun xs H Q ⟨g, F, st, ds, r, b, rs, h, q⟩ => by
  unfold anyD at h
  split at h
  · obtain ⟨ns, e1, rfl⟩ := Option.map_eq_some_iff.mp h
    cases boolsOf_some e1
    obtain ⟨v, rfl, r1⟩ := rs.one
    obtain ⟨a, vs, rfl, h2, h3⟩ := r1.list b.sub
    cases h3.of_bools
    exact ⟨a, ns, rfl, SqL.of h2, q _ H F b (.bl _)⟩
  · cases h
def tupleD : List PyData → Option PyData
  | [.list ds] => some (.tuple ds)
  | [.tuple ds] => some (.tuple ds)
  | _ => none
theorem cd_tuple : CallD X (.type "tuple") tupleD := call_tupleZ.imp fun xs H Q ⟨g, F, st, ds, r, b, rs, h, q⟩ => by
  unfold tupleD at h
  split at h
  · cases h
    obtain ⟨v, rfl, r1⟩ := rs.one
    obtain ⟨a, vs, rfl, h2, h3⟩ := r1.list b.sub
    exact ⟨a, vs, rfl, .inl ⟨SqL.of h2, fun p o hp ho => let ⟨b3, r3⟩ := b.tupNew hp ho h3; q _ _ _ b3 r3⟩⟩
  · cases h
    obtain ⟨v, rfl, r1⟩ := rs.one
    obtain ⟨a, vs, rfl, h1, h2, h3⟩ := r1.tuple b.sub
    exact ⟨a, vs, rfl, .inr ⟨h2, q _ H F b (.tup h1 h3)⟩⟩
  · cases h
def listL : List PyData → Option (List PyData)
  | [.list ds] => some ds
  | [.tuple ds] => some ds
  | _ => none
theorem cf_list : CallF X (.type "list") listL := call_list_of.imp fun xs H Q ⟨g, F, st, ds, r, b, rs, h, q⟩ => by
  unfold listL at h
  split at h
  · cases h
    obtain ⟨v, rfl, r1⟩ := rs.one
    obtain ⟨a, vs, rfl, h2, h3⟩ := r1.list b.sub
    exact ⟨a, vs, rfl, .inl (SqL.of h2), fun p hp => q p _ _ F (b.newH hp) hp upd_same (noneF b hp) h3⟩
  · cases h
    obtain ⟨v, rfl, r1⟩ := rs.one
    obtain ⟨a, vs, rfl, h1, h2, h3⟩ := r1.tuple b.sub
    exact ⟨a, vs, rfl, .inr h2, fun p hp => q p _ _ F (b.newH hp) hp upd_same (noneF b hp) h3⟩
  · cases h
def sortI (ns : List Int) : List Int := ns.mergeSort (fun a b => decide (a ≤ b))
theorem sortI_perm (ns : List Int) : (sortI ns).Perm ns := List.mergeSort_perm _ _
theorem sortI_le (ns : List Int) : (sortI ns).Pairwise (· ≤ ·) := by
  have h := List.pairwise_mergeSort (le := fun a b : Int => decide (a ≤ b)) (fun a b c h1 h2 => by simp at *; omega) (fun a b => by simp; omega) ns
  exact h.imp fun h => of_decide_eq_true h
theorem perm_sorted : ∀ {xs ys : List Int}, xs.Perm ys → xs.Pairwise (· ≤ ·) → ys.Pairwise (· ≤ ·) → xs = ys
  | [], ys, p, _, _ => (List.nil_perm.mp p).symm
  | x :: xs, [], p, _, _ => absurd (List.perm_nil.mp p) (by simp)
  | x :: xs, y :: ys, p, h1, h2 => by
    have e : x = y := by
      have m1 : x ∈ y :: ys := p.subset (List.mem_cons_self ..)
      have m2 : y ∈ x :: xs := p.symm.subset (List.mem_cons_self ..)
      have a1 : y ≤ x := by
        rcases List.mem_cons.mp m1 with h | h
        · omega
        · exact (List.pairwise_cons.mp h2).1 x h
      have a2 : x ≤ y := by
        rcases List.mem_cons.mp m2 with h | h
        · omega
        · exact (List.pairwise_cons.mp h1).1 y h
      omega
    subst e
    rw [perm_sorted (List.perm_cons x |>.mp p) (List.pairwise_cons.mp h1).2 (List.pairwise_cons.mp h2).2]
theorem sortI_uniq {ns ns' : List Int} (p : ns'.Perm ns) (h : ns'.Pairwise (· ≤ ·)) : ns' = sortI ns := perm_sorted (p.trans (sortI_perm ns).symm) h (sortI_le ns)
def sortedIL : List PyData → Option (List PyData)
  | [.list ds] => (intsOf ds).map fun ns => (sortI ns).map .int
  | _ => none
theorem cf_sortedI : CallF X (.builtin "sorted") sortedIL := cr_sortedI.imp fun xs H Q ⟨g, F, st, ds, r, b, rs, h, q⟩ => by
  unfold sortedIL at h
  split at h
  · obtain ⟨ns, e1, rfl⟩ := Option.map_eq_some_iff.mp h
    cases intsOf_some e1
    obtain ⟨v, rfl, r1⟩ := rs.one
    obtain ⟨a, vs, rfl, h2, h3⟩ := r1.list b.sub
    cases h3.of_ints
    refine ⟨a, ns, rfl, SqL.of h2, fun ns' p hp hs hn => ?_⟩
    cases sortI_uniq hp hs
    exact q p _ _ F (b.newH hn) hn upd_same (noneF b hn) (RpA.ints _)
  · cases h

/-! ### repr -/
def reprD (d : PyData) : Option PyData := if d.showable = true ∧ d.shown.length ≤ 1000000 ∧ d.depth ≤ 60 then some (.str d.shown) else none
theorem repr_run {pins : List (Addr × Obj)} {σ : L2.St} {H F : Hp} {s : Shared} {v : V} {u : Value} {d : PyData} {Q : VK} (I : Inv X pins σ H s) (hg : X.A.guards = some []) (hu : X.A.units + 64 < cLine) (sub : Same F H) (h : Rp X.K F v d) (r : RelV v u) (hs : d.showable = true) (hz : d.shown.length ≤ sizeLine) (hd : d.depth ≤ 60) (q : Q (.str d.shown) H) :
    wpAny (model X.prog X.w) X.A (call (.builtin "repr") [u]) (EP X pins σ Q) X.xe s := by
  have fin : ∀ (h' : Heap) (tk : Tok) (n : Nat), (∀ b o, s.heap.get? b = some o → h'.get? b = some o) → EP X pins σ Q (.str d.shown tk) { s with heap := h', toks := n } := fun h' tk n k => ⟨.str d.shown, H, I.kept (t' := n) k, ⟨tk, rfl⟩, q⟩
  cases d with
  | none => cases h; cases r; simp only [PyData.shown] at fin; exact PySem.P.repr_of_none (fin s.heap _ _ fun _ _ e => e)
  | bool b => cases h; cases r; simp only [PyData.shown] at fin; exact PySem.P.repr_of_bool (fin s.heap _ _ fun _ _ e => e)
  | int i => cases h; obtain ⟨t, rfl⟩ := r; simp only [PyData.shown] at fin; exact PySem.P.repr_of_int (by simpa [PyData.showable] using hs) (fin s.heap _ _ fun _ _ e => e)
  | str x => cases h; obtain ⟨t, rfl⟩ := r; simp only [PyData.shown] at fin hz; exact PySem.P.repr_of_str (fin s.heap _ _ fun _ _ e => e) hz
  | list ds =>
    obtain ⟨as0, rd⟩ := Rp.reads I sub _ v u h r
    cases h with
    | @lst a vs _ h1 h2 =>
      cases r
      obtain ⟨its, rv, ⟨o, n, ho, hc, _, hdt⟩, _⟩ := I.list (SqL.of (sub _ _ h1))
      have hz' : (listText (PyData.shownAll ds)).length ≤ sizeLine := by simpa only [PyData.shown] using hz
      obtain ⟨bs, hb, hk⟩ := RpA.reprs I sub ds _ its h2 rv (by simpa [PyData.showable] using hs) fun t ht => Nat.le_trans (listText_mem_le ht) hz'
      have hna : a ∉ bs := not_mem_of_deeper rd (by simp only [PyData.depth]; omega) hb
      simp only [PyData.depth] at hd
      simp only [PyData.shown] at fin
      refine call_repr_slot (T := "list") (idr := "list.__repr__") (by omega) ⟨o, ho, hc⟩ PySem.F.slot_list_repr.toG ?_
      cases its with
      | nil =>
        cases rv
        cases h2
        simp only [PyData.shownAll, listText_nil] at fin
        exact call_list_repr_empty ⟨o, ho, hc⟩ ho hdt ⟨_, _, rfl, fin s.heap _ _ fun _ _ e => e⟩
      | cons y l =>
        exact call_list_reprK ho hc hdt hna (by simpa using hk.length_eq) (fun i z e => hk.item i z (by simpa using e)) hg (fun b _ => Clear.nil b) (by show X.A.units + 1 + _ < cLine; omega) (fun _ _ e => e) (fun h' u tk k => ⟨_, _, rfl, fin h' u tk k⟩) hz'
  | tuple ds =>
    obtain ⟨as0, rd⟩ := Rp.reads I sub _ v u h r
    cases h with
    | @tup a vs _ h1 h2 =>
      cases r
      obtain ⟨its, rv, ⟨o, ho, hc, n, hdt⟩, _⟩ := I.tuple (Same.sqT sub h1.sq)
      have hz' : (tupleText (PyData.shownAll ds)).length ≤ sizeLine := by simpa only [PyData.shown] using hz
      obtain ⟨bs, hb, hk⟩ := RpA.reprs I sub ds _ its h2 rv (by simpa [PyData.showable] using hs) fun t ht => Nat.le_trans (tupleText_mem_le ht) hz'
      have hna : a ∉ bs := not_mem_of_deeper rd (by simp only [PyData.depth]; omega) hb
      simp only [PyData.depth] at hd
      simp only [PyData.shown] at fin
      refine call_repr_slot (T := "tuple") (idr := "tuple.__repr__") (by omega) ⟨o, ho, hc⟩ PySem.F.slot_tuple_repr ?_
      exact call_tuple_reprK ho hc hdt hna (by simpa using hk) hg (fun b _ => Clear.nil b) (by show X.A.units + 1 + _ < cLine; omega) (fun _ _ e => e) (fun h' u tk k => ⟨_, _, rfl, fin h' u tk k⟩) hz'
  | dict kvs =>
    obtain ⟨as0, rd⟩ := Rp.reads I sub _ v u h r
    cases h with
    | @dic a od ks _ h1 h2 =>
      cases r
      obtain ⟨_, hsys, vs, kv, o, es, ep, e1, e2, e3, e4, e5, _⟩ := (Rd.ok (.inr ⟨_, sub _ _ h1⟩) I.hok)
      have hz' : (dictText (PyData.shownKv kvs)).length ≤ sizeLine := by simpa only [PyData.shown] using hz
      obtain ⟨bs, hb, hk⟩ := RpK.reprs I sub kvs _ vs es.toList h2 kv e5 (by simpa [PyData.showable] using hs) fun t ht => Nat.le_trans (dictText_mem_le ht) hz'
      have hna : a ∉ bs := not_mem_of_deeper rd (by simp only [PyData.depth]; omega) hb
      simp only [PyData.depth] at hd
      simp only [PyData.shown] at fin
      refine call_repr_slot (T := "dict") (idr := "dict.__repr__") (by omega) ⟨o, e1, e2.1⟩ PySem.F.slot_dict_repr ?_
      exact call_dict_reprK e1 e2.1 e3 hsys hna hk hg (fun b _ => Clear.nil b) (by show X.A.units + 1 + _ < cLine; omega) (fun _ _ e => e) (fun h' u tk k => ⟨_, _, rfl, fin h' u tk k⟩) hz'
/-- calls of built-ins whose arguments must be frozen -/
def rCE (K : PySem.W.Frag) (φ : List PyData → Option PyData) : List V → Hp → VK → Prop := fun vs H Q => ∃ g F st ds r, Bs g H F H F st ∧ RpA K F vs ds ∧ φ ds = some r ∧ ∀ v H' F', Bs g H F H' F' st → Rp K F' v r → Q v H'
def CallE (X : Cx) (f : Value) (φ : List PyData → Option PyData) : Prop := CallR X f (rCE X.K φ)
def reprL : List PyData → Option PyData
  | [d] => if d.showable = true ∧ d.shown.length ≤ 1000000 ∧ d.depth ≤ 60 then some (.str d.shown) else none
  | _ => none
theorem ce_repr (hg : X.A.guards = some []) (hu : X.A.units + 64 < cLine) : CallE X (.builtin "repr") reprL := fun pins s σ H vs us Q I rv ⟨g, F, st, ds, r, b, ra, h, q⟩ => by
  unfold reprL at h
  split at h
  · split at h
    · rename_i d hc
      cases h
      cases ra with
      | cons r1 r2 =>
        cases r2
        obtain ⟨u, rfl, ru⟩ := vals1 rv
        exact repr_run I hg hu b.sub r1 ru hc.1 (Nat.le_of_lt (Nat.lt_of_le_of_lt hc.2.1 (by decide))) hc.2.2 (q _ H F b (.str _))
    · cases h
  · cases h
theorem se_callE {φ : List PyData → Option PyData} {x : Str} {p pos : Pos} {id : String} {e : Expr} {es : List Expr} {ms : Ev → M (List PyData)} (hc : CallE X (.builtin id) φ) (hm : X.mg x = none) (ha : SA X (e :: es) ms) (hv : bootBuiltins x = some (.builtin id) := by decide +kernel) (hg : Gl X x := by rfl) (hn : x ≠ "__name__" := by decide) (hdb : (x == ("__debug__" : Str)) = false := by decide)
    (he : starEach (e :: es) X.env = (false, eval e X.env) :: starEach es X.env := by rfl) (hpl : (backTo pos (starEach es X.env)).any (·.1) = false := by rfl) : SE X (.Call (.Name x p) (e :: es) [] pos) (mCl φ ms) := fun g H0 F0 =>
  (pe_callB hc hg hm hv (ha g H0 F0) hn hdb he hpl).imp fun σ H Q ⟨ρ, F, st, d, st', b, s, e, q⟩ => by
    obtain ⟨ds, st1, e1, f1⟩ := bnd e
    obtain ⟨e4, rfl⟩ := lfts f1
    exact ⟨ρ, F, st, ds, st', b, s, e1, fun vs H2 F2 b2 r2 => ⟨g, F2, st', ds, d, b2.base, r2, e4, fun v H3 F3 b3 r3 => q v H3 F3 (b2.trans b3) r3⟩⟩
end
end DL
end

section
set_option Elab.async false
set_option linter.all false
set_option maxRecDepth 100000
set_option maxHeartbeats 4000000
/-! DL8: dicts on data, zip, stores into owned lists and dicts, parallel assignment. -/
namespace DL
open PySem PySem.Spec PyProof.Rows L2

/-! ### dicts as data -/
def keyOf : PyData → Option Key
  | .int i => some (.inl i)
  | .str x => some (.inr x)
  | _ => none
theorem keyOf_some {d : PyData} {k : Key} (h : keyOf d = some k) : d = keyD k := by
  cases d <;> first | (cases h; rfl) | cases h
theorem keyOf_keyD (k : Key) : keyOf (keyD k) = some k := by cases k <;> rfl
def dlook (kvs : List (PyData × PyData)) (k : Key) : Option PyData := (kvs.find? fun kv => decide (keyOf kv.1 = some k)).map (·.2)
def dput (kvs : List (PyData × PyData)) (k : Key) (d : PyData) : List (PyData × PyData) :=
  if (kvs.any fun kv => decide (keyOf kv.1 = some k)) = true then kvs.map (fun kv => if keyOf kv.1 = some k then (kv.1, d) else kv) else kvs ++ [(keyD k, d)]
def dmerge (kvs : List (PyData × PyData)) (more : List (Key × PyData)) : List (PyData × PyData) := more.foldl (fun acc kv => dput acc kv.1 kv.2) kvs
section
variable {K : PySem.W.Frag} {F : Hp}
theorem key_dec (k k' : Key) : decide (keyOf (keyD k') = some k) = decide (k' = k) := by
  rw [keyOf_keyD]
  by_cases h : k' = k
  · subst h; simp
  · rw [decide_eq_false h, decide_eq_false (fun z => h (Option.some.inj z))]
theorem RpK.look (k : Key) : ∀ {kvs : List (PyData × PyData)} {ks : List (Key × V)}, RpK K F ks kvs → (valV ks k = none ∧ dlook kvs k = none) ∨ ∃ v d, valV ks k = some v ∧ dlook kvs k = some d ∧ Rp K F v d
  | [], _, .nil => .inl ⟨rfl, rfl⟩
  | _ :: kvs, _, .cons (k := k') (v := v) (d := d) r t => by
    have e := key_dec k k'
    by_cases h : k' = k
    · subst h
      refine .inr ⟨v, d, valV_pos rfl, ?_, r⟩
      unfold dlook
      rw [List.find?_cons, e]; simp
    · rw [valV_neg (show ¬ (k', v).1 = k from h)]
      have e2 : dlook ((keyD k', d) :: kvs) k = dlook kvs k := by
        unfold dlook
        rw [List.find?_cons, e, decide_eq_false h]
      rw [e2]
      exact RpK.look k t
theorem RpK.any (k : Key) : ∀ {kvs : List (PyData × PyData)} {ks : List (Key × V)}, RpK K F ks kvs → (ks.any fun kv => decide (kv.1 = k)) = (kvs.any fun kv => decide (keyOf kv.1 = some k))
  | [], _, .nil => rfl
  | _ :: kvs, _, .cons (k := k') r t => by rw [List.any_cons, List.any_cons, RpK.any k t, key_dec]
theorem RpK.repl (k : Key) {v : V} {d : PyData} (rv : Rp K F v d) : ∀ {kvs : List (PyData × PyData)} {ks : List (Key × V)}, RpK K F ks kvs →
    RpK K F (ks.map fun kv => if kv.1 = k then (kv.1, v) else kv) (kvs.map fun kv => if keyOf kv.1 = some k then (kv.1, d) else kv)
  | [], _, .nil => .nil
  | _ :: kvs, _, .cons (k := k') (v := v') (d := d') r t => by
    rw [List.map_cons, List.map_cons]
    by_cases h : k' = k
    · rw [if_pos (show (k', v').1 = k from h), if_pos (show keyOf (keyD k', d').1 = some k by rw [h]; exact keyOf_keyD k)]
      exact .cons rv (RpK.repl k rv t)
    · rw [if_neg (show ¬ (k', v').1 = k from h), if_neg (show ¬ keyOf (keyD k', d').1 = some k by rw [keyOf_keyD]; exact fun z => h (Option.some.inj z))]
      exact .cons r (RpK.repl k rv t)
theorem RpK.snoc (k : Key) {v : V} {d : PyData} (rv : Rp K F v d) : ∀ {kvs : List (PyData × PyData)} {ks : List (Key × V)}, RpK K F ks kvs → RpK K F (ks ++ [(k, v)]) (kvs ++ [(keyD k, d)])
  | [], _, .nil => .cons rv .nil
  | _ :: _, _, .cons r t => .cons r (RpK.snoc k rv t)
theorem RpK.put (k : Key) {v : V} {d : PyData} {kvs : List (PyData × PyData)} {ks : List (Key × V)} (rv : Rp K F v d) (r : RpK K F ks kvs) : RpK K F (putK ks k v) (dput kvs k d) := by
  unfold putK dput
  rw [RpK.any k r]
  split
  · exact r.repl k rv
  · exact r.snoc k rv
theorem RpK.length : ∀ {kvs : List (PyData × PyData)} {ks : List (Key × V)}, RpK K F ks kvs → ks.length = kvs.length
  | [], _, .nil => rfl
  | _ :: _, _, .cons r t => by rw [List.length_cons, List.length_cons, RpK.length t]
theorem RpK.keys : ∀ {kvs : List (PyData × PyData)} {ks : List (Key × V)}, RpK K F ks kvs → kvs.map (·.1) = ks.map fun kv => keyD kv.1
  | [], _, .nil => rfl
  | _ :: _, _, .cons r t => by rw [List.map_cons, List.map_cons, RpK.keys t]
end

section
variable {X : Cx} {w : Bool} {ws : List Nat} {e a b c o tg : Expr} {es : List Expr} {m ma mb mc : Ev → M PyData} {pos : Pos} {s : Stmt} {rest body orelse : List Stmt} {m1 m2 : Ev → M Fl}
theorem key_v {K : PySem.W.Frag} {g : Gh} {H F : Hp} {v : V} {k : Key} (r : RpB K g H F v (keyD k)) : v = kV k := by
  cases k with
  | inl i => exact RpB.int r
  | inr x => exact RpB.str r
def dgetD : PyData → PyData → Option PyData
  | .dict kvs, kd => do let k ← keyOf kd; dlook kvs k
  | _, _ => none
theorem se_dget (hu : X.A.units + 1 < cLine) (ha : SB X a ma) (hb : SB X b mb) (hs : NoSl b := by intro _ _; rfl) : SE X (.Subscript a b pos) (mOp dgetD ma mb) := fun g H0 F0 => (pe_dget hu (ha g H0 F0) (hb g H0 F0) hs).imp fun σ H Q ⟨ρ, F, st, d, st', b, s, e, q⟩ =>
  two b s e fun x y v w H2 F2 e3 b2 r1 r2 => by
    cases x <;> first | cases e3 | skip
    rename_i kvs
    obtain ⟨k, e4, e5⟩ := Option.bind_eq_some_iff.mp (show (keyOf y).bind (fun k => dlook kvs k) = some d from e3)
    cases keyOf_some e4
    cases key_v r2
    obtain ⟨a, ks, rfl, h, rk⟩ := r1.dict b2.sub
    rcases rk.look k with ⟨_, z⟩ | ⟨v, d', z1, z2, rz⟩
    · rw [z] at e5; cases e5
    · rw [z2] at e5; cases e5
      exact ⟨a, v, rfl, by rw [← z1]; exact (show DGet _ _ _ _ from .inl ⟨_, _, h, rfl, rfl⟩), q v H2 F2 b2 rz⟩
/-- d.get(k, x) -/
def dget2D (d kd x : PyData) : Option PyData := match d with
  | .dict kvs => do let k ← keyOf kd; pure ((dlook kvs k).getD x)
  | _ => none
def mOp3 {α : Type} (φ : PyData → PyData → PyData → Option α) (ma mb mc : Ev → M PyData) : Ev → M α := fun ρ => do let x ← ma ρ; let y ← mb ρ; let z ← mc ρ; lft (φ x y z)
theorem se_dget2 {apos cpos : Pos} (hu : X.A.units + 1 < cLine) (ha : SB X a ma) (hb : SB X b mb) (hc : SE X c mc) (hm : M2 X a "get" apos b c cpos := by exact ⟨rfl, rfl, rfl, rfl⟩) : SE X (.Call (.Attribute a "get" apos) [b, c] [] cpos) (mOp3 dget2D ma mb mc) := fun g H0 F0 =>
  (pe_dget2 hu (ha g H0 F0) (hb g H0 F0) (hc g H0 F0) hm).imp fun σ H Q ⟨ρ, F, st, r, st', b, s, e, q⟩ => by
    obtain ⟨d, st1, e1, f1⟩ := bnd e
    obtain ⟨kd, st2, e2, f2⟩ := bnd f1
    obtain ⟨x, st3, e3, f3⟩ := bnd f2
    obtain ⟨e4, rfl⟩ := lfts f3
    cases d <;> first | cases e4 | skip
    rename_i kvs
    obtain ⟨k, e5, e6⟩ := Option.bind_eq_some_iff.mp (show (keyOf kd).bind (fun k => some ((dlook kvs k).getD x)) = some r from e4)
    cases keyOf_some e5
    cases e6
    refine ⟨ρ, F, st, _, st1, b, s, e1, fun v H1 F1 b1 r1 => ?_⟩
    obtain ⟨a, ks, rfl, h, rk⟩ := r1.dict b1.sub
    refine ⟨a, rfl, .inl ⟨ks, h⟩, ρ, F1, st1, _, st2, b.trans b1, s.step b1.stp, e2, fun y H2 F2 b2 r2 => ⟨ρ, F2, st2, x, st', (b.trans b1).trans b2, (s.step b1.stp).step b2.stp, e3, fun z H3 F3 b3 r3 => ?_⟩⟩
    have r1' := (r1.step b2.stp).step b3.stp
    cases key_v r2
    obtain ⟨a', ks', ea, h', rk'⟩ := r1'.dict b3.sub
    cases ea
    refine ⟨_, (show DGet _ _ _ _ from .inl ⟨_, _, h', rfl, rfl⟩), ?_⟩
    have B := (b1.trans b2).trans b3
    rcases rk'.look k with ⟨z1, z2⟩ | ⟨v, d', z1, z2, rz⟩
    · rw [z1]; rw [z2] at q; exact q z H3 F3 B r3
    · rw [z1]; rw [z2] at q; exact q v H3 F3 B rz
def inD : PyData → PyData → Option PyData
  | kd, .dict kvs => do let k ← keyOf kd; pure (.bool (dlook kvs k).isSome)
  | _, _ => none
theorem inD_some {x y d : PyData} (h : inD x y = some d) : ∃ kvs k, y = .dict kvs ∧ x = keyD k ∧ d = .bool (dlook kvs k).isSome := by
  cases y with
  | dict kvs =>
    obtain ⟨k, e5, e6⟩ := Option.bind_eq_some_iff.mp (show (keyOf x).bind (fun k => some (.bool (dlook kvs k).isSome)) = some d from by cases x <;> exact h)
    cases e6
    exact ⟨kvs, k, rfl, keyOf_some e5, rfl⟩
  | _ => cases x <;> cases h
theorem se_din (hu : X.A.units + 1 < cLine) (ha : SB X a ma) (hb : SB X b mb) (hm : behindInMarks .In b = false := by rfl) : SE X (.Compare a [.In] [b] pos) (mOp inD ma mb) := fun g H0 F0 => (pe_cmp (pc_din hu (ha g H0 F0) (hb g H0 F0)) hm).imp fun σ H Q ⟨ρ, F, st, d, st', b, s, e, q⟩ =>
  two b s e fun x y v w H2 F2 e3 b2 r1 r2 => by
    obtain ⟨kvs, k, rfl, rfl, rfl⟩ := inD_some e3
    cases key_v r1
    obtain ⟨a, ks, rfl, h, rk⟩ := r2.dict b2.sub
    refine ⟨a, _, rfl, (show DGet _ _ _ _ from .inl ⟨_, _, h, rfl, rfl⟩), ?_⟩
    rcases rk.look k with ⟨z1, z2⟩ | ⟨v, d', z1, z2, rz⟩
    · rw [z1]; rw [z2] at q; exact q _ H2 F2 b2 (.bl _)
    · rw [z1]; rw [z2] at q; exact q _ H2 F2 b2 (.bl _)

/-! ### x[k] = v of an owned dict, xs[i] = v of an owned list -/
def mDPut (i : Nat) (mk mv : Ev → M PyData) : Ev → M Fl := fun ρ => do
  let d ← mv ρ
  let kvs ← lft (odAt ρ i)
  let kd ← mk ρ
  let k ← lft (keyOf kd)
  let kvs ← lft (szI kvs.length (dput kvs k d))
  pure (.nx (ρ.set i (.od kvs)))
theorem ss_dput {i : Nat} {x : Str} {xp tpos : Pos} {mk mv : Ev → M PyData} (hu : X.A.units + 1 < cLine) (hv : PE X (.Name x xp) (tVar i)) (hk : SB X b mk) (he : SE X e mv) (hs : swapsWith e (some (.Subscript (.Name x xp) b tpos)) pos.line X.env = pure false := by rfl) :
    SS X (.Assign [.Subscript (.Name x xp) b tpos] e pos) (mDPut i mk mv) := fun g H0 F0 => (ps_dput hu hv (hk g H0 F0) (he g H0 F0) hs).imp fun D σ H ⟨ρ, F, st, fl, st', b, sl, e, q⟩ => by
  obtain ⟨d, st1, e1, f1⟩ := bnd e
  obtain ⟨kvs, st2, e2, f2⟩ := bnd f1
  obtain ⟨e2', rfl⟩ := lfts e2
  obtain ⟨kd, st3, e3, f3⟩ := bnd f2
  obtain ⟨k, st4, e4, f4⟩ := bnd f3
  obtain ⟨e4', rfl⟩ := lfts e4
  obtain ⟨kvs2, st5, e5, f5⟩ := bnd f4
  obtain ⟨e5', rfl⟩ := lfts e5
  obtain ⟨rfl, hz⟩ := szI_some e5'
  obtain ⟨rfl, rfl⟩ := purs f5
  cases keyOf_some e4'
  refine ⟨ρ, F, st, d, st2, b, sl, e1, fun v H1 F1 b1 r1 => ?_⟩
  have hρ := odAt_some e2'
  have s1 := sl.step b1.stp
  obtain ⟨y, hσ, a, ks, rfl, h, n, n1, n2, n3, r⟩ := s1.get hρ
  refine ⟨_, hσ, ρ, F1, st2, _, st', b.trans b1, s1, e3, fun w H2 F2 b2 r2 => ?_⟩
  cases key_v r2
  have h' := b2.stp.kp _ _ h n1 n2
  have n' := b2.stp.own n h
  refine ⟨a, _, rfl, DPut.k h' (line6 (by rw [r.length]; exact hz)), ?_⟩
  exact q σ _ F2 (((b.trans b1).trans b2).updO n3 n' n1 n2) (b1.stp.fr.trans b2.stp.fr) ((s1.step b2.stp).updO hρ rfl hσ ⟨a, _, rfl, upd_same, n', n1, n2, n3, RpK.put k (Rp.mono b2.stp.fr _ _ r1) (RpK.mono b2.stp.fr _ _ r)⟩)
def setL (ds : List PyData) : PyData → PyData → Option (List PyData)
  | .int i, d => (ixN ds.length i).map fun j => ds.set j d
  | _, _ => none
def mSetIx (i : Nat) (mk mv : Ev → M PyData) : Ev → M Fl := fun ρ => do
  let d ← mv ρ
  let ds ← lft (olAt ρ i)
  let kd ← mk ρ
  let ds ← lft (setL ds kd d)
  pure (.nx (ρ.set i (.ol ds)))
theorem ss_setIx {i : Nat} {x : Str} {xp tpos : Pos} {mk mv : Ev → M PyData} (hv : PE X (.Name x xp) (tVar i)) (hk : SB X b mk) (he : SE X e mv) (hs : swapsWithSole [.Subscript (.Name x xp) b tpos] e pos.line X.env = pure false := by rfl) (hw : swappedStores [.Subscript (.Name x xp) b tpos] e X.env = pure none := by rfl)
    (h1 : (assignEach [.Subscript (.Name x xp) b tpos] X.env).map (·.2) = [assign (.Subscript (.Name x xp) b tpos) X.env] := by rfl)
    (ha : ∀ v, assign (.Subscript (.Name x xp) b tpos) X.env v = (do
      let ov ← holding [v] (eval (.Name x xp) X.env)
      let iv ← holding [v, ov] (eval b X.env)
      standAt tpos
      holding [v, ov, iv] (setItem ov iv v)
      release [v, ov, iv] []) := by intro _; rfl) :
    SS X (.Assign [.Subscript (.Name x xp) b tpos] e pos) (mSetIx i mk mv) := fun g H0 F0 => (ps_asg (he g H0 F0) (pg_sub hv (hk g H0 F0) set_list ha) hs hw h1).imp fun D σ H ⟨ρ, F, st, fl, st', b, sl, e, q⟩ => by
  obtain ⟨d, st1, e1, f1⟩ := bnd e
  obtain ⟨ds, st2, e2, f2⟩ := bnd f1
  obtain ⟨e2', rfl⟩ := lfts e2
  obtain ⟨kd, st3, e3, f3⟩ := bnd f2
  obtain ⟨ds2, st5, e5, f5⟩ := bnd f3
  obtain ⟨e5', rfl⟩ := lfts e5
  obtain ⟨rfl, rfl⟩ := purs f5
  refine ⟨ρ, F, st, d, st2, b, sl, e1, fun v H1 F1 b1 r1 => ?_⟩
  have hρ := olAt_some e2'
  have s1 := sl.step b1.stp
  obtain ⟨y, hσ, a, vs, rfl, h, n, n1, n2, n3, r⟩ := s1.get hρ
  refine ⟨_, hσ, ρ, F1, st2, kd, st', b.trans b1, s1, e3, fun w H2 F2 b2 r2 => ?_⟩
  cases kd <;> first | cases e5' | skip
  rename_i k
  obtain ⟨j, ej, rfl⟩ := Option.map_eq_some_iff.mp (show (ixN ds.length k).map (fun j => ds.set j d) = some ds2 from e5')
  cases r2.int
  have h' := b2.stp.kp _ _ h n1 n2
  have n' := b2.stp.own n h
  refine ⟨a, vs, k, j, rfl, rfl, h', by rw [r.length]; exact ej, ?_⟩
  exact q σ _ F2 (((b.trans b1).trans b2).updO n3 n' n1 n2) (b1.stp.fr.trans b2.stp.fr) ((s1.step b2.stp).updO hρ rfl hσ ⟨a, _, rfl, upd_same, n', n1, n2, n3, RpA.set (Rp.mono b2.stp.fr _ _ r1) j (RpA.mono b2.stp.fr _ _ r)⟩)

/-! ### a, b = x, y with plain local names -/
def mPar (is : List Nat) (ms : Ev → M (List PyData)) : Ev → M Fl := fun ρ => do
  let ds ← ms ρ
  let ds ← lft (lenI is.length ds)
  pure (.nx ((is.zip ds).foldl (fun ρ p => ρ.set p.1 (.vl p.2)) ρ))
theorem ss_par {i j : Nat} {x y : Str} {ms : Ev → M (List PyData)} {px py pt : Pos} {kt k2 : Nat} {pt2 : Pos} (hc : X.calm = true) (hN : X.N.Nodup) (ha : SA X [a, b] ms) (hi : X.N[i]? = some x := by rfl) (hj : X.N[j]? = some y := by rfl) (hij : i ≠ j := by decide)
    (hx : X.env.scope.names.lookup x = some .local := by rfl) (hy : X.env.scope.names.lookup y = some .local := by rfl) (hw : swappedStores [.Tuple [.Name x px, .Name y py] kt pt] (.Tuple [a, b] k2 pt2) X.env = pure (some [x, y]) := by rfl)
    (hs : swapsWithSole [.Tuple [.Name x px, .Name y py] kt pt] (.Tuple [a, b] k2 pt2) pos.line X.env = pure false := by rfl) : SS X (.Assign [.Tuple [.Name x px, .Name y py] kt pt] (.Tuple [a, b] k2 pt2) pos) (mPar [i, j] ms) := fun g H0 F0 =>
  (ps_par hc hN hi hj hij hx hy (ha g H0 F0) hw hs).imp fun D σ H ⟨ρ, F, st, fl, st', b, sl, e, q⟩ => by
  obtain ⟨ds, st1, e1, f1⟩ := bnd e
  obtain ⟨ds2, st2, e2, f2⟩ := bnd f1
  obtain ⟨e2', rfl⟩ := lfts e2
  obtain ⟨rfl, hl⟩ := lenI_some e2'
  obtain ⟨rfl, rfl⟩ := purs f2
  refine ⟨ρ, F, st, ds, st', b, sl, e1, fun vs H1 F1 b1 r1 => ?_⟩
  match ds, vs, r1, hl with
  | [d1, d2], [v1, v2], .cons r1 (.cons r2 .nil), _ =>
    exact ⟨v1, v2, rfl, q _ H1 F1 (b.trans b1) b1.stp.fr (((sl.step b1.stp).put (s := .vl d1) ⟨v1, rfl, r1⟩ rfl).put (s := .vl d2) ⟨v2, rfl, r2⟩ rfl)⟩
theorem ss_par3 {i j l : Nat} {x y z : Str} {ms : Ev → M (List PyData)} {px py pz pt : Pos} {kt k2 : Nat} {pt2 : Pos} (hc : X.calm = true) (hN : X.N.Nodup) (ha : SA X [a, b, c] ms) (hi : X.N[i]? = some x := by rfl) (hj : X.N[j]? = some y := by rfl) (hl : X.N[l]? = some z := by rfl) (hij : i ≠ j := by decide) (hil : i ≠ l := by decide) (hjl : j ≠ l := by decide)
    (hx : X.env.scope.names.lookup x = some .local := by rfl) (hy : X.env.scope.names.lookup y = some .local := by rfl) (hz : X.env.scope.names.lookup z = some .local := by rfl) (hw : swappedStores [.Tuple [.Name x px, .Name y py, .Name z pz] kt pt] (.Tuple [a, b, c] k2 pt2) X.env = pure (some [x, y, z]) := by rfl)
    (hs : swapsWithSole [.Tuple [.Name x px, .Name y py, .Name z pz] kt pt] (.Tuple [a, b, c] k2 pt2) pos.line X.env = pure false := by rfl) : SS X (.Assign [.Tuple [.Name x px, .Name y py, .Name z pz] kt pt] (.Tuple [a, b, c] k2 pt2) pos) (mPar [i, j, l] ms) := fun g H0 F0 =>
  (ps_par3 hc hN hi hj hl hij hil hjl hx hy hz (ha g H0 F0) hw hs).imp fun D σ H ⟨ρ, F, st, fl, st', b, sl, e, q⟩ => by
  obtain ⟨ds, st1, e1, f1⟩ := bnd e
  obtain ⟨ds2, st2, e2, f2⟩ := bnd f1
  obtain ⟨e2', rfl⟩ := lfts e2
  obtain ⟨rfl, hl⟩ := lenI_some e2'
  obtain ⟨rfl, rfl⟩ := purs f2
  refine ⟨ρ, F, st, ds, st', b, sl, e1, fun vs H1 F1 b1 r1 => ?_⟩
  match ds, vs, r1, hl with
  | [d1, d2, d3], [v1, v2, v3], .cons r1 (.cons r2 (.cons r3 .nil)), _ =>
    exact ⟨v1, v2, v3, rfl, q _ H1 F1 (b.trans b1) b1.stp.fr ((((sl.step b1.stp).put (s := .vl d1) ⟨v1, rfl, r1⟩ rfl).put (s := .vl d2) ⟨v2, rfl, r2⟩ rfl).put (s := .vl d3) ⟨v3, rfl, r3⟩ rfl)⟩

/-! ### zip of two lists, of two tuples -/
def zipD : List PyData → Option (List PyData)
  | [.list xs, .list ys] => some (List.zipWith (fun x y => .tuple [x, y]) xs ys)
  | [.tuple xs, .tuple ys] => some (List.zipWith (fun x y => .tuple [x, y]) xs ys)
  | _ => none
theorem zip_get {xs ys : List PyData} {i : Nat} {d : PyData} (h : (List.zipWith (fun x y => PyData.tuple [x, y]) xs ys)[i]? = some d) : ∃ x y, xs[i]? = some x ∧ ys[i]? = some y ∧ d = .tuple [x, y] := by
  rw [List.getElem?_zipWith] at h
  cases hx : xs[i]? with
  | none => rw [hx] at h; simp at h
  | some x =>
    cases hy : ys[i]? with
    | none => rw [hx, hy] at h; simp at h
    | some y => rw [hx, hy] at h; simp at h; exact ⟨x, y, rfl, rfl, h.symm⟩
theorem itz_ok {K : PySem.W.Frag} {a b : Addr} {vs ws : List V} {xs ys : List PyData} {R : Gh → Hp → Hp → Prop} (h : ∀ g H F, R g H F → Same F H → (H a = some (.lst vs) ∧ RpA K F vs xs) ∧ H b = some (.lst ws) ∧ RpA K F ws ys) : ItOk true K (Itz K a b) (List.zipWith (fun x y => .tuple [x, y]) xs ys) R := fun i g H0 F0 H2 F2 st2 b2 p => by
  obtain ⟨⟨h1, h2⟩, h3, h4⟩ := h g H2 F2 p b2.sub
  refine ⟨fun d hd => ?_, fun hl => ⟨vs, ws, SqL.of h1, SqL.of h3, by rw [List.length_zipWith] at hl; rw [h2.length, h4.length]; omega⟩⟩
  obtain ⟨x, y, ex, ey, rfl⟩ := zip_get hd
  obtain ⟨v, e1, r1⟩ := h2.get ex
  obtain ⟨u, e2, r2⟩ := h4.get ey
  refine ⟨⟨vs, ws, v, u, SqL.of h1, SqL.of h3, e1, e2⟩, fun z H3 ⟨T, v', u', ez, hT, eH, y1, y2⟩ => ?_⟩
  have q1 := y1 vs (SqL.of h1)
  rw [e1] at q1; cases q1
  have q2 := y2 ws (SqL.of h3)
  rw [e2] at q2; cases q2
  subst ez
  subst eH
  exact ⟨_, b2.base.newF hT, .inr ⟨rfl, T, _, _, rfl, rfl, upd_same, RpA.mono (Same.updN (noneF b2 hT)) _ _ (.cons r1 (.cons r2 .nil))⟩⟩
theorem itzT_ok {K : PySem.W.Frag} {a b : Addr} {vs ws : List V} {xs ys : List PyData} {R : Gh → Hp → Hp → Prop} (h : ∀ g H F, R g H F → Same F H → (SqT K H a vs ∧ RpA K F vs xs) ∧ SqT K H b ws ∧ RpA K F ws ys) : ItOk true K (RZ.ItzT K a b) (List.zipWith (fun x y => .tuple [x, y]) xs ys) R := fun i g H0 F0 H2 F2 st2 b2 p => by
  obtain ⟨⟨h1, h2⟩, h3, h4⟩ := h g H2 F2 p b2.sub
  refine ⟨fun d hd => ?_, fun hl => ⟨vs, ws, h1, h3, by rw [List.length_zipWith] at hl; rw [h2.length, h4.length]; omega⟩⟩
  obtain ⟨x, y, ex, ey, rfl⟩ := zip_get hd
  obtain ⟨v, e1, r1⟩ := h2.get ex
  obtain ⟨u, e2, r2⟩ := h4.get ey
  refine ⟨⟨vs, ws, v, u, h1, h3, e1, e2⟩, fun z H3 ⟨T, v', u', ez, hT, eH, y1, y2⟩ => ?_⟩
  have q1 := y1 vs h1
  rw [e1] at q1; cases q1
  have q2 := y2 ws h3
  rw [e2] at q2; cases q2
  subst ez
  subst eH
  exact ⟨_, b2.base.newF hT, .inr ⟨rfl, T, _, _, rfl, rfl, upd_same, RpA.mono (Same.updN (noneF b2 hT)) _ _ (.cons r1 (.cons r2 .nil))⟩⟩
theorem RpA.two {K : PySem.W.Frag} {F : Hp} {vs : List V} {d e : PyData} (r : RpA K F vs [d, e]) : ∃ v w, vs = [v, w] ∧ Rp K F v d ∧ Rp K F w e := by
  cases r with
  | cons r1 r2 => cases r2 with
    | cons r3 r4 => cases r4; exact ⟨_, _, rfl, r1, r3⟩
theorem si_zip {p tpos : Pos} {elts : List Expr} {kk : Nat} {ms : Ev → M (List PyData)} (hm : X.mg "zip" = none) (ha : SA X [a, b] ms) (hg : Gl X "zip" := by rfl) (hs : starEach [a, b] X.env = (false, eval a X.env) :: starEach [b] X.env := by rfl) (hpl : (backTo pos (starEach [b] X.env)).any (·.1) = false := by rfl) :
    SI true X (.Tuple elts kk tpos) (.Call (.Name "zip" p) [a, b] [] pos) (mCl zipD ms) := fun g H0 F0 => (RZ.pi_zipA hg hm (ha g H0 F0) hs hpl).imp fun σ H R ⟨ρ, F, st, ds, st', b, sl, e, q⟩ => by
  obtain ⟨x, st1, e1, f1⟩ := bnd e
  obtain ⟨e4, rfl⟩ := lfts f1
  refine ⟨ρ, F, st, x, st', b, sl, e1, fun vs H1 F1 b1 r1 => ?_⟩
  unfold zipD at e4
  split at e4
  · cases e4
    obtain ⟨v, u, rfl, r2, r3⟩ := r1.two
    cases r2 with
    | lst h1 h2 => cases r3 with
      | lst h3 h4 => exact ⟨_, _, _, _, rfl, .inl ⟨SqL.of (b1.sub _ _ h1), SqL.of (b1.sub _ _ h3), q _ H1 F1 b1 (itz_ok fun _ H F p s => ⟨⟨s _ _ (p _ _ h1), RpA.mono p _ _ h2⟩, s _ _ (p _ _ h3), RpA.mono p _ _ h4⟩)⟩⟩
  · cases e4
    obtain ⟨v, u, rfl, r2, r3⟩ := r1.two
    cases r2 with
    | tup h1 h2 => cases r3 with
      | tup h3 h4 => exact ⟨_, _, _, _, rfl, .inr ⟨Same.sqT b1.sub h1.sq, Same.sqT b1.sub h3.sq, q _ H1 F1 b1 (itzT_ok fun _ H F p s => ⟨⟨Same.sqT s (Same.sqT p h1.sq), RpA.mono p _ _ h2⟩, Same.sqT s (Same.sqT p h3.sq), RpA.mono p _ _ h4⟩)⟩⟩
  · cases e4
end
end DL
end

section
set_option Elab.async false
set_option linter.all false
set_option maxRecDepth 100000
set_option maxHeartbeats 4000000
/-! DL9: {**a, **b}; dict(..); sorted(d); keys of a dict walked; [::-1]. -/
namespace PySem
open MeetsSeq F
section
variable {prog : Program} {w : World} {K : Type} [DecidableEq K] {knd : KeyKind prog w K} {A : Around} {E : Value → Shared → Prop} {s : Shared}
theorem dl_dictPut {d : Addr} {kvs : List (K × Value)} {k : K} {key v : Value} {Q : Unit → Shared → Prop} (hkey : knd.is k key = true) (hm : s.heap.DictOf knd d kvs)
    (hQ : ∀ h', h'.DictOf knd d (stored kvs k v) → Heap.SameBut d s.heap h' → Q () { s with heap := h' })
    (hsz : kvs.length ≤ sizeLine) :
    wpAny (model prog w) A (dictPut d (knd.hash k) key v) Q E s := by
  obtain ⟨o, es, ep, ho, hc, hd, hk, hp, hn⟩ := hm
  have hes : es.size ≤ sizeLine := by have e1 := hp.length; have e2 : es.toList.length = es.size := by simp
                                      omega
  unfold dictPut
  refine wpAny_bind (wpAny_dictFind_of hkey ho hd hk ?_)
  have hidx : (es.findIdx? fun e => knd.is k e.key) = kvs.findIdx? fun kv => decide (kv.1 = k) := by
    rw [← hp.findIdx k]; obtain ⟨l⟩ := es; simp
  cases hi : es.findIdx? fun e => knd.is k e.key with
  | some i =>
    refine wpAny_updateDict ho hd (hQ _ ⟨_, _, ep, Heap.get?_update_self _ ho (Obj.isFreed_of_dict (Obj.data_mapDict hd _)),
      hc.mapDict _, Obj.data_mapDict hd _, hk.modify _ _, ?_, ?_⟩ (Heap.SameBut.update ..))
    · rw [stored, if_pos (any_of_findIdx_some (hidx ▸ hi))]
      have hl : (es.toList.findIdx? fun e => knd.is k e.key) = some i := by rw [← hi]; obtain ⟨l⟩ := es; simp
      have := hp.modify hn hl v
      obtain ⟨l⟩ := es
      simpa using this
    · rw [stored, if_pos (any_of_findIdx_some (hidx ▸ hi)), keys_map_store]; exact hn
  | none =>
    have hnot : k ∉ kvs.map (·.1) := not_mem_of_findIdx_none (hidx ▸ hi)
    have hany : ¬ (kvs.any fun kv => decide (kv.1 = k)) = true := by
      rw [List.any_eq_true]; rintro ⟨kv, hkv, he⟩
      exact hnot (List.mem_map.mpr ⟨kv, hkv, of_decide_eq_true he⟩)
    refine wpAny_updateDictKeys (hz := hes) ho hd (hQ _ ⟨_, _, ep + 1, Heap.get?_update_self _ ho (Obj.isFreed_of_dict (Obj.data_mapDictKeys hd _)),
      hc.mapDictKeys _, Obj.data_mapDictKeys hd _, hk.push hkey _, ?_, ?_⟩ (Heap.SameBut.update ..))
    · rw [stored, if_neg hany]
      have := hp.append hkey (knd.hash k) v
      obtain ⟨l⟩ := es
      simpa using this
    · rw [stored, if_neg hany, List.map_append, List.nodup_append]
      refine ⟨hn, by simp, ?_⟩
      intro a ha b hb
      simp only [List.map_cons, List.map_nil, List.mem_singleton] at hb
      subst hb
      exact fun e => hnot (e ▸ ha)
theorem pairs_at : ∀ {es : List DictEntry} {kvs : List (K × Value)} {i : Nat} {e : DictEntry} {kv : K × Value}, Pairs knd es kvs → es[i]? = some e → kvs[i]? = some kv → knd.is kv.1 e.key = true ∧ e.val = kv.2
  | _, _, 0, _, _, .cons h1 h2 _, e1, e2 => by cases e1; cases e2; exact ⟨h1, h2⟩
  | _, _, i + 1, _, _, .cons _ _ h3, e1, e2 => pairs_at (i := i) h3 (by simpa using e1) (by simpa using e2)
  | _, _, _, _, _, .nil, e1, _ => by simp at e1
theorem dl_mergeMapping {d a : Addr} {acc kvs : List (K × Value)} {Q : Unit → Shared → Prop} (hda : a ≠ d) (hs : (a == sysModules) = false) (hd : s.heap.DictOf knd d acc) (ha : s.heap.DictOf knd a kvs) (hz : acc.length + kvs.length ≤ sizeLine)
    (h : ∀ h', h'.DictOf knd d (merged acc kvs) → Heap.SameBut d s.heap h' → Q () { s with heap := h' }) : wpAny (model prog w) A (mergeMapping d (.ref a) false) Q E s := by
  obtain ⟨oa, es, ep, ha1, ha2, ha3, ha4, ha5, ha6⟩ := id ha
  obtain ⟨od, es', ep', hd1, hd2, hd3, hd4, hd5, hd6⟩ := id hd
  unfold mergeMapping
  refine wpAny_bind (wpAny_isInstance (U := "dict") ha.typeIs sub_dict_dict ?_)
  rw [if_pos rfl]
  refine wpAny_bind (wpAny_specialOf ha.typeIs F.slot_dict_iter.lookup (wpAny_bind (wpAny_pure ?_)))
  show wpAny _ _ (ite ((a == sysModules) = true) _ _) _ _ s
  rw [hs, if_neg Bool.false_ne_true]
  refine wpAny_bind (wpAny_dictEntries hd1 hd3 ?_)
  show wpAny _ _ (ite (es'.isEmpty = true) _ _) _ _ s
  have hlen : es.toList.length = kvs.length := ha5.length
  have main : ∀ (f : Nat → PUnit → Sem (ForInStep PUnit)), (∀ i u, f i u = (do
          let __do_lift ← dictEntries a
          match __do_lift[i]? with
            | some e => do
              holding [e.key, e.val] (dictPut d e.hash e.key e.val)
              let __do_lift ← dictEpoch a
              if (__do_lift != ep) = true then do
                  unsupported "dict.changed-during-merge"
                  pure (ForInStep.yield PUnit.unit)
                else pure (ForInStep.yield PUnit.unit)
            | _ => do
              unsupported "dict.changed-during-merge"
              pure (ForInStep.yield PUnit.unit))) → wpAny (model prog w) A (do forIn (List.range es.size) PUnit.unit f; pure ()) Q E s := by
    intro f hf
    refine wpAny_bind (wpAny_forIn_list f (fun l _ s' => ∃ i, l = List.range' i (es.size - i) ∧ i ≤ es.size ∧ ∃ h', s' = { s with heap := h' } ∧ h'.DictOf knd d (merged acc (kvs.take i)) ∧ Heap.SameBut d s.heap h') _ ?_ ?_ _ _ ⟨0, by rw [Nat.sub_zero, List.range_eq_range'], Nat.zero_le _, s.heap, rfl, hd, .refl _ _⟩)
    · rintro x rest b s' ⟨i, e, hi, h', rfl, hm, sb⟩
      have hlt : i < es.size := by
        rcases Nat.lt_or_ge i es.size with z | z
        · exact z
        · rw [Nat.sub_eq_zero_of_le z] at e; cases e
      obtain ⟨m, hm'⟩ : ∃ m, es.size - i = m + 1 := ⟨es.size - i - 1, by omega⟩
      rw [hm', List.range'_succ] at e
      injection e with e1 e2
      subst e1
      have ha1' : h'.get? a = some oa := by rw [sb.2 a hda]; exact ha1
      rw [hf]
      refine wpAny_bind (wpAny_dictEntries (s := { s with heap := h' }) ha1' ha3 ?_)
      obtain ⟨kv, hkv⟩ : ∃ kv, kvs[x]? = some kv := ⟨kvs[x]'(by rw [← hlen]; simpa using hlt), List.getElem?_eq_getElem _⟩
      have hx : es[x]? = some es[x] := Array.getElem?_eq_getElem hlt
      rw [hx]
      obtain ⟨p1, p2⟩ := pairs_at ha5 (show es.toList[x]? = some es[x] by simpa using hx) hkv
      obtain ⟨k', q1, q2⟩ := ha4 es[x] (Array.getElem_mem hlt)
      cases knd.inj _ _ _ q1 p1
      have ep1 : (ep != ep) = false := by simp
      refine wpAny_bind (wpAny_holding ?_)
      rw [q2, p2]
      refine dl_dictPut (s := { s with heap := h' }) p1 hm (fun h2 hm2 sb2 => ?_) (by have := merged_length_le acc (kvs.take x); rw [List.length_take] at this; omega)
      refine wpAny_bind (wpAny_dictEpoch (s := { s with heap := h2 }) (by rw [sb2.2 a hda]; exact ha1') ha3 ?_)
      rw [ep1, if_neg Bool.false_ne_true]
      refine wpAny_pure ⟨x + 1, ?_, hlt, h2, rfl, by rw [merged_take_succ acc kvs x kv hkv]; exact hm2, sb.trans sb2⟩
      rw [e2, show es.size - (x + 1) = m by omega]
    · rintro b s' ⟨i, e, hi, h', rfl, hm, sb⟩
      have : i = es.size := by
        have z := congrArg List.length e
        simp at z
        omega
      subst this
      rw [show es.size = kvs.length by rw [← hlen]; simp, List.take_length] at hm
      exact wpAny_pure (h h' hm sb)
  split
  · refine wpAny_bind (wpAny_dictEntries ha1 ha3 (wpAny_bind ?_))
    refine wpAny_forIn_array' _ (fun l _ s' => s' = s ∧ ∀ e ∈ l, carriedByValue e.key = true) _ ?_ ?_ _ _ ⟨rfl, fun e he => ?_⟩
    · rintro x rest b s' ⟨rfl, hc⟩
      have := hc x List.mem_cons_self
      cases hx : x.key <;> rw [hx] at this <;> first | exact wpAny_pure ⟨rfl, fun e he => hc e (List.mem_cons_of_mem _ he)⟩ | cases this
    · rintro b s' ⟨rfl, -⟩
      refine wpAny_bind (wpAny_dictEntries ha1 ha3 (wpAny_bind (wpAny_dictEpoch ha1 ha3 ?_)))
      exact main _ fun i u => rfl
    · obtain ⟨k, hk, _⟩ := ha4 e (Array.mem_toList_iff.mp he)
      exact knd.byValue k _ hk
  · refine wpAny_bind (wpAny_dictEntries ha1 ha3 (wpAny_bind (wpAny_dictEpoch ha1 ha3 ?_)))
    exact main _ fun i u => rfl

/-- {**x, **y} -/
theorem dl_display2 {v1 v2 : Sem Value} {Q : Value → Shared → Prop}
    (h : wpAny (model prog w) A v1 (fun u1 s1 => ∃ a kvs, u1 = .ref a ∧ a ≠ s.heap.objs.size ∧ (a == sysModules) = false ∧ s1.heap.DictOf knd s.heap.objs.size [] ∧ s1.heap.DictOf knd a kvs ∧ kvs.length ≤ sizeLine ∧
      ∀ h1, h1.DictOf knd s.heap.objs.size (merged [] kvs) → Heap.SameBut s.heap.objs.size s1.heap h1 → wpAny (model prog w) A v2 (fun u2 s2 => ∃ b lvs acc, u2 = .ref b ∧ b ≠ s.heap.objs.size ∧ (b == sysModules) = false ∧ s2.heap.DictOf knd s.heap.objs.size acc ∧ s2.heap.DictOf knd b lvs ∧ acc.length + lvs.length ≤ sizeLine ∧
        ∀ h2, h2.DictOf knd s.heap.objs.size (merged acc lvs) → Heap.SameBut s.heap.objs.size s2.heap h2 → Q (.ref s.heap.objs.size) { s2 with heap := h2 }) E { s1 with heap := h1 }) E { s with heap := s.heap.push { cls := .type "dict", data := .dict #[] } }) :
    wpAny (model prog w) A (dictDisplay [(none, v1), (none, v2)]) Q E s := by
  unfold dictDisplay
  dsimp only
  rw [List.forIn_cons]
  refine wpAny_bind (wpAny_bind ?_)
  refine wpAny_bind (wpAny_pure ?_)
  refine wpAny_bind (wpAny_alloc ?_)
  refine wpAny_bind (wpAny_holding (wpAny_mono h (fun u1 s1 ⟨a, kvs, e1, hd, hs, h0, h1, hz, hq⟩ => ?_) fun _ _ e => e))
  subst e1
  refine wpAny_bind (wpAny_onRaise (wpAny_tryCatch (wpAny_onRaise (wpAny_holding (dl_mergeMapping hd hs h0 h1 (by simpa using hz) fun h1' hm1 sb1 => ?_)))))
  refine wpAny_pure ?_
  dsimp only
  rw [List.forIn_cons]
  refine wpAny_bind ?_
  refine wpAny_bind (wpAny_pure ?_)
  refine wpAny_bind (wpAny_pure ?_)
  refine wpAny_bind (wpAny_holding (wpAny_mono (hq h1' hm1 sb1) (fun u2 s2 ⟨b, lvs, acc, e2, hd2, hs2, h02, h12, hz2, hq2⟩ => ?_) fun _ _ e => e))
  subst e2
  refine wpAny_bind (wpAny_onRaise (wpAny_tryCatch (wpAny_onRaise (wpAny_holding (dl_mergeMapping hd2 hs2 h02 h12 hz2 fun h2' hm2 sb2 => ?_)))))
  refine wpAny_pure ?_
  dsimp only
  rw [List.forIn_nil]
  refine wpAny_pure (wpAny_bind (wpAny_pure (wpAny_pure (hq2 h2' hm2 sb2))))
end
end PySem
namespace DL
open PySem PySem.Spec PyProof.Rows L2
section
variable {X : Cx} {e a b c tg : Expr} {es : List Expr} {m ma mb mc : Ev → M PyData} {pos : Pos}

/-! ### dicts put together -/
def kvOf (kvs : List (PyData × PyData)) : List (Key × PyData) := kvs.filterMap fun kv => (keyOf kv.1).map fun k => (k, kv.2)
theorem RpK.merge {K : PySem.W.Frag} {F : Hp} : ∀ {more : List (PyData × PyData)} {ms : List (Key × V)} {acc : List (PyData × PyData)} {as : List (Key × V)}, RpK K F as acc → RpK K F ms more → RpK K F (mergeK as ms) (dmerge acc (kvOf more))
  | [], _, _, _, r, .nil => r
  | _ :: more, _, acc, as, r, .cons (k := k) (v := v) (d := d) h t => by
    have e : kvOf ((keyD k, d) :: more) = (k, d) :: kvOf more := by
      unfold kvOf
      rw [List.filterMap_cons, keyOf_keyD]; rfl
    rw [e]
    exact RpK.merge (as := putK as k v) (acc := dput acc k d) (RpK.put k h r) t
theorem kvOf_length {K : PySem.W.Frag} {F : Hp} : ∀ {more : List (PyData × PyData)} {ms : List (Key × V)}, RpK K F ms more → (kvOf more).length = more.length
  | [], _, .nil => rfl
  | _ :: more, _, .cons (k := k) (d := d) h t => by
    have e : kvOf ((keyD k, d) :: more) = (k, d) :: kvOf more := by
      unfold kvOf
      rw [List.filterMap_cons, keyOf_keyD]; rfl
    rw [e, List.length_cons, List.length_cons, kvOf_length t]
def tStar2 (ta tb : TE) : TE := fun σ H Q => ∀ p, H p = none → ta σ (upd H p (.dK [])) fun x H1 => ∃ a kvs, x = .ref a ∧ a ≠ p ∧ H1 p = some (.dK []) ∧ Rd H1 a (.dK kvs) ∧
  tb σ (upd H1 p (.dK (mergeK [] kvs))) fun y H2 => ∃ b lvs, y = .ref b ∧ b ≠ p ∧ H2 p = some (.dK (mergeK [] kvs)) ∧ Rd H2 b (.dK lvs) ∧ kvs.length + lvs.length ≤ 1000000 ∧ Q (.ref p) (upd H2 p (.dK (mergeK (mergeK [] kvs) lvs)))
theorem pe_star2 {ta tb : TE} (ha : PE X a ta) (hb : PE X b tb) : PE X (.Dict [none, none] [a, b] pos) (tStar2 ta tb) := ⟨fun pins s σ H Q I h => by
  have hm : (s.heap.objs.size == sysModules) = false := beq_eq_false_iff_ne.mpr (Nat.ne_of_gt I.big)
  have big : (1000000 : Nat) ≤ sizeLine := by decide
  rw [arm_eval_Dict]
  refine wpAny_bind (wpAny_standAt ?_)
  show wpAny _ _ (dictDisplay [(none, do let x ← eval a X.env; standAt pos; pure x), (none, do let x ← eval b X.env; standAt pos; pure x)]) _ _ s
  have I0 : Inv X pins σ (upd H s.heap.objs.size (.dK [])) { s with heap := s.heap.push { cls := .type "dict", data := .dict #[] } } :=
    I.laid (a := s.heap.objs.size) (o := .dK []) (t' := s.toks) (fun _ _ q => Heap.get?_push_of_some _ q) (Nat.le_refl _) (dk_empty s.heap I.big)
  refine dl_display2 (knd := mixKind X.prog X.w) (wpAny_bind (thn (ha.run pins _ σ _ _ I0 (h _ (I.hok.fresh (Nat.le_refl _)))) fun u s1 ⟨x, H1, I1, r1, a', kvs, ex, hne, hp, hd, q⟩ => ?_))
  subst ex
  obtain rfl : u = Value.ref a' := r1
  refine wpAny_bind (wpAny_standAt (wpAny_pure ?_))
  obtain ⟨z1, z2, vs, z3, z4⟩ := dk_rd I1.hok hd
  obtain ⟨y1, y2, vs0, y3, y4⟩ := dk_rd I1.hok (.inl hp)
  cases y3
  refine ⟨a', vs, rfl, hne, z2, y4, z4, by rw [← z3.length]; exact z1, fun h1 hm1 sb1 => ?_⟩
  have rl : KV (mergeK [] kvs) (merged [] vs) := KV.merge z3 .nil
  have ln : (mergeK [] kvs).length ≤ kvs.length := by have := length_mergeK kvs []; simpa using this
  have ex1 : ∃ u, h1.get? s.heap.objs.size = some u := let ⟨_, _, _, e, _⟩ := hm1; ⟨_, e⟩
  have I2 : Inv X pins σ (upd H1 s.heap.objs.size (.dK (mergeK [] kvs))) { s1 with heap := h1 } :=
    I1.write (x := s.heap.objs.size) (e := s.heap.objs.size) (t' := s1.toks) (by rw [hp]; exact True.intro) (.inl rfl) (fun b u nb e => by rw [sb1.2 b nb]; exact e) ex1 ⟨Nat.le_trans ln z1, hm, _, rl, hm1⟩
  refine wpAny_bind (thn (hb.run pins _ σ _ _ I2 q) fun u2 s2 ⟨y, H2, I3, r2, b', lvs, ey, hne2, hp2, hd2, hz, q2⟩ => ?_)
  subst ey
  obtain rfl : u2 = Value.ref b' := r2
  refine wpAny_bind (wpAny_standAt (wpAny_pure ?_))
  obtain ⟨w1, w2, us, w3, w4⟩ := dk_rd I3.hok hd2
  obtain ⟨x1, x2, us0, x3, x4⟩ := dk_rd I3.hok (.inl hp2)
  have l0 : us0.length = (mergeK [] kvs).length := x3.length.symm
  refine ⟨b', us, us0, rfl, hne2, w2, x4, w4, by rw [l0, ← w3.length]; omega, fun h2 hm2 sb2 => ?_⟩
  have ex2 : ∃ u, h2.get? s.heap.objs.size = some u := let ⟨_, _, _, e, _⟩ := hm2; ⟨_, e⟩
  have ln2 : (mergeK (mergeK [] kvs) lvs).length ≤ sizeLine := by have := length_mergeK lvs (mergeK [] kvs); omega
  exact ⟨.ref s.heap.objs.size, _, I3.write (o := .dK (mergeK (mergeK [] kvs) lvs)) (x := s.heap.objs.size) (e := s.heap.objs.size) (t' := s2.toks) (by rw [hp2]; exact True.intro) (.inl rfl) (fun b u nb e => by rw [sb2.2 b nb]; exact e) ex2 ⟨ln2, hm, _, KV.merge w3 x3, hm2⟩, rfl, q2⟩⟩


def mrgD : PyData → PyData → Option (List (PyData × PyData))
  | .dict k, .dict l => if k.length + l.length ≤ 1000000 then some (dmerge (dmerge [] (kvOf k)) (kvOf l)) else none
  | _, _ => none
theorem ne_src {g : Gh} {H0 F0 H F : Hp} {st : Pk} {p : Addr} (b : Bs g H0 F0 H F st) (hp : H p = none) : p ≠ g.a ∧ p ≠ g.l :=
  ⟨(fun z => by rw [z, b.sa] at hp; cases hp), (fun z => by rw [z, b.sl] at hp; cases hp)⟩
theorem sd_star2 (ha : SE X a ma) (hb : SE X b mb) : SD X (.Dict [none, none] [a, b] pos) (mOp mrgD ma mb) := fun g H0 F0 => (pe_star2 (ha g H0 F0) (hb g H0 F0)).imp fun σ H Q ⟨ρ, F, st, r, st', b, sl, e, q⟩ p hp => by
  obtain ⟨x, st1, e1, f1⟩ := bnd e
  obtain ⟨y, st2, e2, f2⟩ := bnd f1
  obtain ⟨e3, rfl⟩ := lfts f2
  obtain ⟨n1, n2⟩ := ne_src b hp
  unfold mrgD at e3
  split at e3
  · rename_i k l
    split at e3
    · rename_i hz
      cases e3
      have c0 := b.base.newH (o := .dK []) hp
      refine ⟨ρ, F, st, _, st1, b.trans c0, sl.step c0.stp, e1, fun v H1 F1 b1 r1 => ?_⟩
      have f1n := b1.stp.own (noneF b hp) upd_same
      have k1 := b1.stp.kp _ _ upd_same n1 n2
      cases r1 with
      | @dic a' od ks _ g1 g2 =>
        have na : a' ≠ p := fun z => by rw [z, f1n] at g1; cases g1
        refine ⟨a', ks, rfl, na, k1, .inr ⟨_, b1.sub _ _ g1⟩, ?_⟩
        have c1 := (c0.trans b1).updO (o := .dK (mergeK [] ks)) hp f1n n1 n2
        refine ⟨ρ, F1, st1, _, st', b.trans c1, sl.step c1.stp, e2, fun w H2 F2 b2 r2 => ?_⟩
        have f2n := b2.stp.own f1n upd_same
        have k2 := b2.stp.kp _ _ upd_same n1 n2
        cases r2 with
        | @dic a2 od2 ls _ g3 g4 =>
          have na2 : a2 ≠ p := fun z => by rw [z, f2n] at g3; cases g3
          refine ⟨a2, ls, rfl, na2, k2, .inr ⟨_, b2.sub _ _ g3⟩, by rw [g2.length, g4.length]; exact hz, ?_⟩
          exact q p _ _ F2 ((c1.trans b2).updO hp f2n n1 n2) hp upd_same f2n (RpK.merge (RpK.merge .nil (RpK.mono b2.stp.fr _ _ g2)) g4)
    · cases e3
  · cases e3

/-! ### dict(..) -/
def prOf : PyData → Option (Key × PyData)
  | .tuple [k, v] => (keyOf k).map fun k => (k, v)
  | _ => none
def prsOf : List PyData → Option (List (Key × PyData))
  | [] => some []
  | d :: ds => do let p ← prOf d; let ps ← prsOf ds; pure (p :: ps)
def dictL : List PyData → Option (List (PyData × PyData))
  | [.list ds] => (prsOf ds).map fun ps => dmerge [] ps
  | [.tuple ds] => (prsOf ds).map fun ps => dmerge [] ps
  | _ => none
theorem RpK.mergeP {K : PySem.W.Frag} {F : Hp} : ∀ {ps : List (Key × PyData)} {ks : List (Key × V)} {acc : List (PyData × PyData)} {as : List (Key × V)}, RpK K F as acc → Paired (fun kv p => kv.1 = p.1 ∧ Rp K F kv.2 p.2) ks ps → RpK K F (mergeK as ks) (dmerge acc ps)
  | _, _, _, _, r, .nil => r
  | _, _, acc, as, r, .cons (a := kv) (b := p) ⟨h1, h2⟩ t => by
    obtain ⟨k, v⟩ := kv
    cases (show k = p.1 from h1)
    exact RpK.mergeP (as := putK as p.1 v) (acc := dput acc p.1 p.2) (RpK.put p.1 h2 r) t
theorem call_dictZ (hcalm : X.calm = true) : CallR X (.type "dict") (fun xs H Q => ∃ (a : Addr) (ps : List Addr) (kvs : List (Key × V)), xs = [.ref a] ∧ (SqL X.K H a (ps.map V.ref) ∨ TpK X.K H a (ps.map V.ref)) ∧ Paired (fun p kv => SqT X.K H p [kV kv.1, kv.2]) ps kvs ∧
    ∀ p, H p = none → Q (.ref p) (upd H p (.dK (mergeK [] kvs)))) := by
  intro pins s σ H xs us Q I r ⟨a, ps, kvs, ex, hq, hp, q⟩
  rcases hq with hq | hq
  · exact call_dictP hcalm pins s σ H xs us Q I r ⟨a, ps, kvs, ex, hq, hp, q⟩
  subst ex
  obtain ⟨u, eu, rx⟩ := vals1 r
  subst eu
  cases rx
  have hps : ∃ its : Array Value, Vals (ps.map V.ref) its.toList ∧ PlainSeq "tuple" s.heap a its ∧ ps.length ≤ sizeLine := by
    rcases hq with ⟨o, h, hn⟩ | ⟨o, its, n, h1, h2, h3, h4, h5, h6⟩
    · obtain ⟨ho, hz, its, rv, o', h1, h2, n, h3⟩ := I.hok _ _ h
      rw [ho] at h1; cases h1
      exact ⟨its.toArray, by simpa using rv, ⟨o, n, ho, h2, hn, h3⟩, by simpa using hz⟩
    · refine ⟨its, h6, ⟨o, n, I.kIn a o h1, h2, h3, h4⟩, ?_⟩
      have := h6.length
      rw [List.length_map] at this
      rw [this, Array.length_toList]; exact h5
  obtain ⟨its, rv, pl, hz⟩ := hps
  have ei := refs_at rv
  obtain ⟨prs, rel, hl, hpr⟩ := pairs_of I hp
  have hsz : its.size = prs.length := by rw [← Array.length_toList, ei, List.length_map, hl]
  obtain ⟨us, eus, hus⟩ : ∃ us : List (Value × Value), us.length = prs.length ∧ ∀ (j : Nat) (k v : Value), us[j]? = some (k, v) → ∃ (kq : Key) (b : Addr), prs[j]? = some (kq, v) ∧ keyIs kq k = true ∧ ps[j]? = some b ∧ IsTup s.heap b #[k, v] := by
    have gen : ∀ (prs : List (Key × Value)) (n : Nat), (∀ (j : Nat) (q : Key × Value), prs[j]? = some q → ∃ (b : Addr) (u : Value), ps[n + j]? = some b ∧ IsTup s.heap b #[u, q.2] ∧ keyIs q.1 u = true) → ∃ us : List (Value × Value), us.length = prs.length ∧ ∀ (j : Nat) (k v : Value), us[j]? = some (k, v) → ∃ (kq : Key) (b : Addr), prs[j]? = some (kq, v) ∧ keyIs kq k = true ∧ ps[n + j]? = some b ∧ IsTup s.heap b #[k, v] := by
      intro prs
      induction prs with
      | nil => exact fun n _ => ⟨[], rfl, fun j k v e => by simp at e⟩
      | cons p prs ih =>
        intro n h
        obtain ⟨us, h1, h2⟩ := ih (n + 1) fun j q e => by
          have := h (j + 1) q (by simpa using e)
          rwa [show n + (j + 1) = n + 1 + j by omega] at this
        obtain ⟨b, u, e1, e2, e3⟩ := h 0 p rfl
        refine ⟨(u, p.2) :: us, by rw [List.length_cons, List.length_cons, h1], fun j k v e => ?_⟩
        cases j with
        | zero => cases e; exact ⟨p.1, b, rfl, e3, e1, e2⟩
        | succ j =>
          obtain ⟨kq, b', g1, g2, g3, g4⟩ := h2 j k v (by simpa using e)
          exact ⟨kq, b', by simpa using g1, g2, by rwa [show n + (j + 1) = n + 1 + j by omega], g4⟩
    obtain ⟨us, h1, h2⟩ := gen prs 0 fun j q e => by simpa using hpr j q e
    exact ⟨us, h1, fun j k v e => by simpa using h2 j k v e⟩
  have hit : PairItems s.heap its (fun j => (ps[j]?).getD 0) us := ⟨by rw [hsz, eus], fun j k v e => by
    obtain ⟨kq, b, g1, g2, g3, g4⟩ := hus j k v e
    obtain ⟨ob, x1, x2, n, x3⟩ := g4
    have ej : (fun j => (ps[j]?).getD 0) j = b := by show (ps[j]?).getD 0 = b; rw [g3]; rfl
    rw [ej]
    exact ⟨by rw [← Array.getElem?_toList, ei, List.getElem?_map, g3]; rfl, .inl ⟨ob, x1, x2, n, x3⟩⟩⟩
  refine PySem.call_dict_pairs (knd := mixKind X.prog X.w) (kvs := prs) (PairArg.tuple (prog := X.prog) (w := X.w) a its (fun j => (ps[j]?).getD 0) us) (I.ok.hd hcalm) ⟨pl, hit⟩ ⟨eus.symm, fun i key v e => ?_⟩ (by rw [eus, hl]; exact hz) fun h' tk hd' k => ?_
  · obtain ⟨kq, b, g1, g2, _⟩ := hus i key v e
    exact ⟨kq, g1, g2⟩
  · have hm : (s.heap.objs.size == sysModules) = false := beq_eq_false_iff_ne.mpr (Nat.ne_of_gt I.big)
    have hlen : (mergeK [] kvs).length ≤ sizeLine := by
      refine Nat.le_trans (length_mergeK kvs []) ?_
      rw [List.length_nil, Nat.zero_add, rel.length, hl]
      exact hz
    exact ⟨.ref s.heap.objs.size, upd H s.heap.objs.size (.dK (mergeK [] kvs)), I.laid (t' := tk) (fun b u e => k b u (by simp) e) (Nat.le_refl _) (show ObjOk X.prog X.w _ _ _ (.dK (mergeK [] kvs)) from ⟨hlen, hm, merged [] prs, KV.merge rel .nil, hd'⟩), rfl, q _ (I.hok.fresh (Nat.le_refl _))⟩

def rCD (K : PySem.W.Frag) (φ : List PyData → Option (List (PyData × PyData))) : List V → Hp → VK → Prop := fun vs H Q => ∃ g F st ds r, Bs g H F H F st ∧ RpBs K g H F vs ds ∧ φ ds = some r ∧
  ∀ a vs H' F', Bs g H F H' F' st → H a = none → H' a = some (.dK vs) → F' a = none → RpK K F' vs r → Q (.ref a) H'
def CallDD (X : Cx) (f : Value) (φ : List PyData → Option (List (PyData × PyData))) : Prop := CallR X f (rCD X.K φ)
theorem sd_callT {x : Str} {p : Pos} {T : String} {ms : Ev → M (List PyData)} {φ : List PyData → Option (List (PyData × PyData))} (hc : CallDD X (.type T) φ) (hm : X.mg x = none) (ha : SAB X (e :: es) ms) (hv : bootBuiltins x = some (.type T) := by decide +kernel) (hg : Gl X x := by rfl) (hn : x ≠ "__name__" := by decide) (hdb : (x == ("__debug__" : Str)) = false := by decide)
    (he : starEach (e :: es) X.env = (false, eval e X.env) :: starEach es X.env := by rfl) (hpl : (backTo pos (starEach es X.env)).any (·.1) = false := by rfl) : SD X (.Call (.Name x p) (e :: es) [] pos) (mCl φ ms) := fun g H0 F0 =>
  (pe_callTy hc hg hm hv (ha g H0 F0) hn hdb he hpl).imp fun σ H Q ⟨ρ, F, st, d, st', b, s, e, q⟩ => args_of b s e fun ds vs H2 F2 e1 b2 r2 => ⟨g, F2, st', ds, d, b2.base, r2, e1, fun a vs H3 F3 b3 h1 h2 h3 r3 => q a vs H3 F3 (b2.trans b3) (none_of b2 h1) h2 h3 r3⟩
theorem prs_ok {K : PySem.W.Frag} {F H : Hp} (sub : Same F H) : ∀ {ds : List PyData} {vs : List V} {ps : List (Key × PyData)}, RpA K F vs ds → prsOf ds = some ps →
    ∃ (as : List Addr) (ks : List (Key × V)), vs = as.map V.ref ∧ Paired (fun p kv => SqT K H p [kV kv.1, kv.2]) as ks ∧ Paired (fun kv p => kv.1 = p.1 ∧ Rp K F kv.2 p.2) ks ps
  | [], _, _, .nil, e => by cases e; exact ⟨[], [], rfl, .nil, .nil⟩
  | d :: ds, _, _, .cons r t, e => by
    obtain ⟨p, e1, e2⟩ := Option.bind_eq_some_iff.mp (show (prOf d).bind (fun p => (prsOf ds).bind fun ps => some (p :: ps)) = some _ from e)
    obtain ⟨ps, e3, e4⟩ := Option.bind_eq_some_iff.mp e2
    cases e4
    obtain ⟨as, ks, rfl, h1, h2⟩ := prs_ok sub t e3
    unfold prOf at e1
    split at e1
    · rename_i k v
      obtain ⟨k', e5, rfl⟩ := Option.map_eq_some_iff.mp e1
      cases keyOf_some e5
      cases r with
      | @tup a vs _ g1 g2 =>
        obtain ⟨x, y, rfl, g3, g4⟩ := g2.two
        cases (show x = kV k' by cases k' with | inl i => cases g3; rfl | inr z => cases g3; rfl)
        exact ⟨a :: as, (k', y) :: ks, rfl, .cons (Same.sqT sub g1.sq) h1, .cons ⟨rfl, g4⟩ h2⟩
    · cases e1
theorem cdd_dict (hcalm : X.calm = true) : CallDD X (.type "dict") dictL := (call_dictZ hcalm).imp fun xs H Q ⟨g, F, st, ds, r, b, rs, h, q⟩ => by
  unfold dictL at h
  split at h
  · obtain ⟨ps, e1, rfl⟩ := Option.map_eq_some_iff.mp h
    obtain ⟨v, rfl, r1⟩ := rs.one
    obtain ⟨a, vs, rfl, h2, h3⟩ := r1.list b.sub
    obtain ⟨as, ks, rfl, h4, h5⟩ := prs_ok b.sub h3 e1
    exact ⟨a, as, ks, rfl, .inl (SqL.of h2), h4, fun p hp => q p _ _ F (b.newH hp) hp upd_same (noneF b hp) (RpK.mergeP .nil h5)⟩
  · obtain ⟨ps, e1, rfl⟩ := Option.map_eq_some_iff.mp h
    obtain ⟨v, rfl, r1⟩ := rs.one
    obtain ⟨a, vs, rfl, h1, h2, h3⟩ := r1.tuple b.sub
    obtain ⟨as, ks, rfl, h4, h5⟩ := prs_ok b.sub h3 e1
    refine ⟨a, as, ks, rfl, .inr ?_, h4, fun p hp => q p _ _ F (b.newH hp) hp upd_same (noneF b hp) (RpK.mergeP .nil h5)⟩
    rcases h1 with ⟨o, h1, hn⟩ | h1
    · exact .inl ⟨o, b.sub _ _ h1, hn⟩
    · exact .inr h1
  · cases h

/-! ### sorted(d): keys that are numbers, few of them -/
def keysI (kvs : List (PyData × PyData)) : Option (List Int) := intsOf (kvs.map (·.1))
def sortedDL : List PyData → Option (List PyData)
  | [.dict kvs] => if kvs.length < 64 then (keysI kvs).map fun ns => (sortI ns).map .int else none
  | _ => none
theorem keysI_some {K : PySem.W.Frag} {F : Hp} : ∀ {kvs : List (PyData × PyData)} {ks : List (Key × V)} {ns : List Int}, RpK K F ks kvs → kvs.map (·.1) = ns.map PyData.int → ks.map (·.1) = ns.map Sum.inl
  | [], _, [], .nil, _ => rfl
  | [], _, _ :: _, .nil, e => by cases e
  | _ :: _, _, [], .cons _ _, e => by cases e
  | _ :: kvs, _, n :: ns, .cons (k := k) h t, e => by
    rw [List.map_cons, List.map_cons] at e
    injection e with e1 e2
    rw [List.map_cons, List.map_cons, keysI_some t e2]
    cases k with
    | inl i => cases e1; rfl
    | inr x => cases e1
theorem cf_sortedD (hcalm : X.calm = true) : CallF X (.builtin "sorted") sortedDL := (call_sortedDI hcalm).imp fun xs H Q ⟨g, F, st, ds, r, b, rs, h, q⟩ => by
  unfold sortedDL at h
  split at h
  · rename_i kvs
    split at h
    · rename_i hz
      obtain ⟨ns, e1, rfl⟩ := Option.map_eq_some_iff.mp h
      have e2 := intsOf_some (show intsOf (kvs.map (·.1)) = some ns from e1)
      obtain ⟨v, rfl, r1⟩ := rs.one
      obtain ⟨a, ks, rfl, h2, h3⟩ := r1.dict b.sub
      refine ⟨a, ks, ns, rfl, h2, keysI_some h3 e2, ?_, fun ys p h1 h2 hp => ?_⟩
      · have := congrArg List.length e2
        rw [List.length_map, List.length_map] at this
        omega
      · cases sortI_uniq h1 h2
        exact q p _ _ F (b.newH hp) hp upd_same (noneF b hp) (RpA.ints _)
    · cases h
  · cases h

/-! ### the keys of a dict walked -/
def keysL : PyData → Option (List PyData)
  | .dict kvs => some (kvs.map (·.1))
  | _ => none
def mKeys (m : Ev → M PyData) : Ev → M (List PyData) := fun ρ => do let d ← m ρ; lft (keysL d)
theorem RpK.get {K : PySem.W.Frag} {F : Hp} : ∀ {kvs : List (PyData × PyData)} {ks : List (Key × V)} {i : Nat} {d : PyData}, RpK K F ks kvs → (kvs.map (·.1))[i]? = some d → ∃ k v, ks[i]? = some (k, v) ∧ d = keyD k
  | [], _, i, d, _, e => by simp at e
  | _ :: kvs, _, 0, d, .cons (k := k) (v := v) r t, e => ⟨k, v, rfl, by simpa using e.symm⟩
  | _ :: kvs, _, i + 1, d, .cons r t, e => by
    obtain ⟨k, v, e1, e2⟩ := RpK.get (i := i) (d := d) t (by simpa using e)
    exact ⟨k, v, by simpa using e1, e2⟩
theorem rp_key {K : PySem.W.Frag} {F : Hp} (k : Key) : Rp K F (kV k) (keyD k) := by cases k <;> constructor
theorem si_keys {w : Bool} (h : SE X e m) : SI w X tg e (mKeys m) := fun g H0 F0 => (pi_keys (h g H0 F0)).imp fun σ H R ⟨ρ, F, st, ds, st', b, sl, e, q⟩ => by
  obtain ⟨d, st1, e1, e2⟩ := bnd e
  obtain ⟨e3, rfl⟩ := lfts e2
  refine ⟨ρ, F, st, d, st', b, sl, e1, fun v H' F' b' r => ?_⟩
  cases d with
  | dict kvs =>
    cases e3
    cases r with
    | @dic a od ks _ h1 h2 =>
      refine ⟨a, od, rfl, .inl ⟨ks, b'.sub _ _ h1, q _ H' F' b' fun i g2 H3 F3 H2 F2 st2 b2 p => ⟨fun x hx => ?_, fun hl => ⟨b2.sub _ _ (p _ _ h1), by rw [h2.length]; simpa using hl⟩⟩⟩⟩
      obtain ⟨k, v, g1, rfl⟩ := h2.get hx
      refine ⟨⟨b2.sub _ _ (p _ _ h1), (List.getElem?_eq_some_iff.mp g1).1⟩, fun y H4 ⟨eH, k', v', g3, ey⟩ => ?_⟩
      rw [g1] at g3
      cases g3
      subst eH ey
      exact ⟨F2, b2.base, .inl (rp_key k)⟩
  | none => cases e3
  | bool _ => cases e3
  | int _ => cases e3
  | str _ => cases e3
  | list _ => cases e3
  | tuple _ => cases e3
end
end DL
end

section
set_option Elab.async false
set_option linter.all false
set_option maxRecDepth 100000
set_option maxHeartbeats 4000000
/-! DL10: [::-1] of tuples and lists. -/
namespace PySem
open PySem.F PyProof.Rows
section
variable {prog : Program} {w : World} {A : Around} {E : Value → Shared → Prop} {s : Shared}
theorem dl_places (n : Nat) : Builtin.Slice.slicePlaces ((n : Int) - 1) (-1) (-1) = n := by
  unfold Builtin.Slice.slicePlaces
  rw [if_neg (by decide)]
  by_cases h : (n : Int) - 1 > -1
  · rw [if_pos h]
    have e : ((n : Int) - 1 - -1 - 1) / (- -1) + 1 = n := by
      rw [show (- -1 : Int) = 1 by decide, Int.ediv_one]; omega
    rw [e]; rfl
  · rw [if_neg h]; omega
theorem dl_fm {α β : Type} {f g : α → Option β} : ∀ {l : List α}, (∀ x ∈ l, f x = g x) → l.filterMap f = l.filterMap g
  | [], _ => rfl
  | x :: l, h => by rw [List.filterMap_cons, List.filterMap_cons, h x List.mem_cons_self, dl_fm fun y hy => h y (List.mem_cons_of_mem _ hy)]
theorem dl_pick (xs : Array Value) : ((List.range xs.size).filterMap fun (k : Nat) => xs[((xs.size : Int) - 1 + (k : Int) * (-1)).toNat]?) = xs.toList.reverse := by
  have e : (List.range xs.size).filterMap (fun (k : Nat) => xs[((xs.size : Int) - 1 + (k : Int) * (-1)).toNat]?) = ((List.range xs.size).map fun k => xs.size - 1 - k).filterMap (xs[·]?) := by
    rw [List.filterMap_map]
    refine dl_fm fun k hk => ?_
    have := List.mem_range.mp hk
    show xs[((xs.size : Int) - 1 + (k : Int) * (-1)).toNat]? = xs[xs.size - 1 - k]?
    rw [show ((xs.size : Int) - 1 + (k : Int) * (-1)).toNat = xs.size - 1 - k by omega]
  rw [e, PySem.W.krv_range, List.filterMap_reverse, PySem.W.krv_all]
theorem dl_revApplied {sl : Addr} {vl vu vs : Value} {n : Nat} {Q : Int × Int × Nat → Shared → Prop} (hs : s.heap.IsSliceOf sl vl vu vs) (pl : IsPart vl none) (pu : IsPart vu none) (ps : IsPart vs (some (-1)))
    (h : Q ((n : Int) - 1, -1, n) s) : wpAny (model prog w) A (Builtin.Slice.sliceApplied (.ref sl) (pure (n : Int))) Q E s := by
  obtain ⟨os, hos, hcs, hds⟩ := id hs
  unfold Builtin.Slice.sliceApplied Builtin.Slice.sliceFields
  refine wpAny_bind (wpAny_bind (wpAny_field hos hds (x := vl) rfl (wpAny_bind (wpAny_field hos hds (x := vu) rfl (wpAny_bind (wpAny_field hos hds (x := vs) rfl (wpAny_pure ?_)))))))
  refine wpAny_bind (HT.slicePart_ ps ?_)
  show wpAny _ _ (if ((-1 : Int) == 0) = true then _ else _) _ _ s
  rw [if_neg (by decide)]
  refine wpAny_bind (HT.slicePart_ pl (wpAny_bind (HT.slicePart_ pu (wpAny_bind (wpAny_pure ?_)))))
  show wpAny _ _ (pure ((n : Int) - 1, (-1 : Int), Builtin.Slice.slicePlaces ((n : Int) - 1) (-1) (-1))) _ _ s
  rw [dl_places]
  exact wpAny_pure h
theorem dl_getItem_tuple_rev {t sl : Addr} {items : Array Value} {vl vu vs : Value} {Q : Value → Shared → Prop} (ht : IsTup s.heap t items) (hs : s.heap.IsSliceOf sl vl vu vs) (pl : IsPart vl none) (pu : IsPart vu none) (ps : IsPart vs (some (-1)))
    (h : Q (.ref s.heap.objs.size) { s with heap := s.heap.push { cls := .type "tuple", data := .seq items.toList.reverse.toArray } })
    (hsz : items.size ≤ sizeLine) : wpAny (model prog w) A (getItem (.ref t) (.ref sl)) Q E s := by
  have htake : sizeOk (.seq items.toList.reverse.toArray) := by
    show items.toList.reverse.toArray.size ≤ sizeLine
    rw [List.size_toArray, List.length_reverse, Array.length_toList]; exact hsz
  obtain ⟨os, hos, hcs, hds⟩ := id hs
  have hTs : s.TypeIs (.ref sl) "slice" := ⟨os, hos, hcs⟩
  unfold getItem
  try with_reducible refine wpAny_holding ?_
  first | refine wpAny_bind (wpAny_pure ?_) | skip
  refine wpAny_bind (wpAny_sequenceKey ht.typeIs (by decide) ?_)
  refine wpAny_bind (wpAny_callSpecial?_slot (name := Str.ofString "__getitem__") ht.typeIs PyProof.Rows.slot_tuple_getitem
    (wpAny_call_entry PyProof.Rows.slot_tuple_getitem ht.typeIs PyProof.Rows.entry_tuple_getitem ?_ (PyProof.Rows.args_tuple_getitem _ _)))
  show wpAny _ _ (Builtin.Tuple.tupleItemsOf (.ref t) >>= _) _ _ s
  refine wpAny_bind (PyProof.Rows.tupleItemsOf_ ht ?_)
  refine wpAny_bind (wpAny_typeOf hTs ?_)
  rw [if_pos (by decide)]
  refine wpAny_bind (dl_revApplied hs pl pu ps ?_)
  show wpAny _ _ (if ((((items.size : Int) - 1) == 0 && (-1 : Int) == 1 && items.size == items.size) = true) then _ else _) _ _ s
  rw [if_neg (by simp), dl_pick]
  first
    | exact wpAny_bind (m := Builtin.Tuple.tupleExact _) (wpAny_newObj_type (wpAny_pure ⟨_, rfl, wpAny_pure h⟩) htake)
    | exact wpAny_bind (m := Builtin.Tuple.tupleExact _) (wpAny_newObj_type (wpAny_bind (wpAny_pure (wpAny_pure ⟨_, rfl, wpAny_pure h⟩))) htake)
    | exact wpAny_bind (wpAny_bind (m := Builtin.Tuple.tupleExact _) (wpAny_newObj_type (wpAny_pure (wpAny_pure ⟨_, rfl, wpAny_pure h⟩)) htake))
    | exact wpAny_bind (wpAny_bind (m := Builtin.Tuple.tupleExact _) (wpAny_newObj_type (wpAny_pure ⟨_, rfl, wpAny_pure h⟩) htake))
end
end PySem
namespace DL
open PySem PySem.Spec PyProof.Rows L2
section
variable {X : Cx} {e a b c tg : Expr} {es : List Expr} {m ma mb mc : Ev → M PyData} {pos : Pos}
def tRevT (K : PySem.W.Frag) (te : TE) : TE := fun σ H Q => te σ H fun x H1 => ∃ a xs, x = .ref a ∧ ((SqL K H1 a xs ∧ ∀ p, H1 p = none → Q (.ref p) (upd H1 p (.lst xs.reverse))) ∨ (SqT K H1 a xs ∧ ∀ p o, H1 p = none → o.dict = none → Q (.ref p) (upd H1 p (.frz o (.tup xs.reverse)))))
theorem pe_revZ {te : TE} {k : Nat} {p1 p2 p3 : Pos} (he : PE X e te) : PE X (.Subscript e (.Slice none none (some (.UnaryOp .USub (.Constant (.int 1) k p1) p2)) p3) pos) (tRevT X.K te) := by
  refine ⟨fun pins s σ H Q I h => ?_⟩
  refine Subscript_ (thn (he.run pins s σ H _ I h) fun v s1 ⟨x, H1, I1, r1, q1⟩ => ?_)
  obtain ⟨a, xs, ex, q⟩ := q1
  subst ex
  cases r1
  have hst : PO X (some (.UnaryOp .USub (.Constant (.int 1) k p1) p2)) (tPart (tUn (rU fun i => .int (-i)) (tC (.int 1)))) := po_some (pe_un un_neg pe_int)
  refine wpAny_Slice (thn (po_none.run pins s1 σ H1 (fun o H2 => o = none ∧ H2 = H1) I1 ⟨rfl, rfl⟩) fun vl s2 ⟨l, H2, I2, pl, el, e2⟩ => ?_)
  subst el e2
  refine thn (po_none.run pins s2 σ H2 (fun o H3 => o = none ∧ H3 = H2) I2 ⟨rfl, rfl⟩) fun vu s3 ⟨u, H3, I3, pu, eu, e3⟩ => ?_
  subst eu e3
  refine thn (hst.run pins s3 σ H3 (fun o H4 => o = some (-1) ∧ H4 = H3) I3 ⟨1, rfl, -1, rfl, rfl, rfl⟩) fun vs s4 ⟨o, H4, I4, ps, eo, e4⟩ => ?_
  subst eo e4
  have I5 : Inv X pins σ H4 { s4 with heap := s4.heap.push { cls := .type "slice", data := .fields #[vl, vu, vs] } } := I4.kept (t' := s4.toks) fun b ob q => Heap.get?_push_of_some _ q
  show wpAny (model X.prog X.w) X.A (subscriptTail e (.Slice none none (some (.UnaryOp .USub (.Constant (.int 1) k p1) p2)) p3) (.ref a) (.ref s4.heap.objs.size)) (EP X pins σ Q) X.xe { s4 with heap := s4.heap.push { cls := .type "slice", data := .fields #[vl, vu, vs] } }
  rcases q with ⟨hx, q⟩ | ⟨hx, q⟩
  · obtain ⟨its, r, ht, hz⟩ := I5.list hx
    have hlen := r.length
    refine tail_any (ops := [.ref a, .ref s4.heap.objs.size]) ht.isList.typeIs (PySem.slot_list_getitem.lookup) ?_ (by with_unfolding_all rfl)
    refine wpAny_getItem_list_slice ht.isList (Heap.IsSliceOf.new _ vl vu vs) pl pu ps (by decide) ?_ (by rw [List.size_toArray]; omega)
    rw [PySem.W.krv_pick]
    refine ⟨.ref _, _, I5.laid (t' := s4.toks) (o := .lst xs.reverse) (fun b ob q => Heap.get?_push_of_some _ q) (Nat.le_refl _) ?_, rfl, q _ (I5.hok.fresh (Nat.le_refl _))⟩
    exact ⟨by rw [List.length_reverse]; exact hz, _, 0, r.reverse, Heap.get?_push_size _ rfl⟩
  · obtain ⟨its, r, ht, hz⟩ := I5.tuple hx
    have hlen := r.length
    refine tail_any (ops := [.ref a, .ref s4.heap.objs.size]) ht.typeIs (PyProof.Rows.slot_tuple_getitem.lookup) ?_ (by with_unfolding_all rfl)
    refine dl_getItem_tuple_rev ht (Heap.IsSliceOf.new _ vl vu vs) pl pu ps ?_ (by rw [List.size_toArray]; omega)
    exact ⟨.ref _, _, I5.laid (t' := s4.toks) (o := .frz _ (.tup xs.reverse)) (fun b ob q => Heap.get?_push_of_some _ q) (Nat.le_refl _)
      ⟨Heap.get?_push_size _ rfl, by rw [List.length_reverse]; exact hz, _, r.reverse, IsTup.new _ _⟩, rfl, q _ _ (I5.hok.fresh (Nat.le_refl _)) rfl⟩
def revD : PyData → Option PyData
  | .list ds => some (.list ds.reverse)
  | .tuple ds => some (.tuple ds.reverse)
  | _ => none
def revL : PyData → Option (List PyData)
  | .list ds => some ds.reverse
  | _ => none
def mUn' {α : Type} (φ : PyData → Option α) (m : Ev → M PyData) : Ev → M α := fun ρ => do let d ← m ρ; lft (φ d)
theorem se_rev {k : Nat} {p1 p2 p3 : Pos} (he : SB X e m) : SE X (.Subscript e (.Slice none none (some (.UnaryOp .USub (.Constant (.int 1) k p1) p2)) p3) pos) (mUn' revD m) := fun g H0 F0 =>
  (pe_revZ (he g H0 F0)).imp fun σ H Q ⟨ρ, F, st, d, st', b, s, e, q⟩ => by
    obtain ⟨x, st1, e1, f1⟩ := bnd e
    obtain ⟨e3, rfl⟩ := lfts f1
    refine ⟨ρ, F, st, x, st', b, s, e1, fun v H2 F2 b2 r1 => ?_⟩
    cases x <;> first | cases e3 | skip
    · obtain ⟨a, vs, rfl, h, ra⟩ := r1.list b2.sub
      exact ⟨a, vs, rfl, .inl ⟨SqL.of h, fun p hp => let ⟨b3, r3⟩ := b2.lstNew hp ra.reverse; q _ _ _ b3 r3⟩⟩
    · obtain ⟨a, vs, rfl, h1, h2, ra⟩ := r1.tuple b2.sub
      exact ⟨a, vs, rfl, .inr ⟨h2, fun p o hp ho => let ⟨b3, r3⟩ := b2.tupNew hp ho ra.reverse; q _ _ _ b3 r3⟩⟩
theorem sf_rev {k : Nat} {p1 p2 p3 : Pos} (he : SB X e m) : SF X (.Subscript e (.Slice none none (some (.UnaryOp .USub (.Constant (.int 1) k p1) p2)) p3) pos) (mUn' revL m) := fun g H0 F0 =>
  (pe_revZ (he g H0 F0)).imp fun σ H Q ⟨ρ, F, st, d, st', b, s, e, q⟩ => by
    obtain ⟨x, st1, e1, f1⟩ := bnd e
    obtain ⟨e3, rfl⟩ := lfts f1
    refine ⟨ρ, F, st, x, st', b, s, e1, fun v H2 F2 b2 r1 => ?_⟩
    cases x <;> first | cases e3 | skip
    obtain ⟨a, vs, rfl, h, ra⟩ := r1.list b2.sub
    exact ⟨a, vs, rfl, .inl ⟨SqL.of h, fun p hp => q p _ _ F2 (b2.newH hp) (none_of b2 hp) upd_same (noneF b2 hp) ra.reverse⟩⟩
end
end DL
end

section
set_option Elab.async false
set_option linter.all false
set_option maxRecDepth 100000
set_option maxHeartbeats 4000000
/-! DL11: the pick source read and changed. -/
namespace DL
open PySem PySem.Spec PyProof.Rows L2
section
variable {g : Gh} {H0 F0 H F : Hp} {st : Pk}
theorem Bs.src (b : Bs g H0 F0 H F st) {st' : Pk} {H' : Hp} (sa : H' g.a = some (.dK (srcKv g st'))) (sl : H' g.l = some (.lst (st'.cells.map V.int))) (ok : st'.ok) (k : ∀ c, c ≠ g.a → c ≠ g.l → H' c = H c) : Bs g H0 F0 H' F st' where
  sub := fun c u h => by
    rw [k c (fun z => by rw [z, b.na] at h; cases h) (fun z => by rw [z, b.nl] at h; cases h)]; exact b.sub c u h
  sa := sa
  sl := sl
  na := b.na
  nl := b.nl
  ne := b.ne
  ok := ok
  stp := ⟨b.stp.fr, b.stp.nw, fun c u h n1 n2 => by rw [k c n1 n2]; exact b.stp.kp c u h n1 n2, fun c h => by
    by_cases h1 : c = g.a
    · rw [h1, sa] at h; cases h
    · by_cases h2 : c = g.l
      · rw [h2, sl] at h; cases h
      · rw [k c h1 h2] at h; exact b.stp.gr c h⟩
end
section
variable {X : Cx} {e a b c tg : Expr} {es : List Expr} {m ma mb mc : Ev → M PyData} {pos : Pos}
def getS : M Pk := fun st => some (st, st)
def srcVal (k : Str) (st : Pk) : Option Int :=
  if k = "left" then some st.left else if k = "mixed" then some st.mixed else if k = "turn" then some st.turn else none
theorem srcVal_some {g : Gh} {k : Str} {st : Pk} {i : Int} (h : srcVal k st = some i) : valV (srcKv g st) (.inr k) = some (.int i) := by
  unfold srcVal at h
  split at h
  · cases h; subst k; rfl
  · split at h
    · cases h; subst k; rfl
    · split at h
      · cases h; subst k; rfl
      · cases h
def mSrcGet (i : Nat) (k : Str) : Ev → M PyData := fun ρ => do let _ ← lft (srcAt ρ i); let st ← getS; let v ← lft (srcVal k st); pure (.int v)
theorem getSs {st st' st2 : Pk} (h : getS st = some (st', st2)) : st' = st ∧ st2 = st := by cases h; exact ⟨rfl, rfl⟩
theorem se_srcGet {i : Nat} {x k : Str} {xp p2 : Pos} {j : Nat} (hu : X.A.units + 1 < cLine) (hv : PE X (.Name x xp) (tVar i)) : SE X (.Subscript (.Name x xp) (.Constant (.str k) j p2) pos) (mSrcGet i k) := fun g H0 F0 =>
  (pe_dget hu hv pe_str (by intro _ _; rfl)).imp fun σ H Q ⟨ρ, F, st, d, st', b, s, e, q⟩ => by
    obtain ⟨u, st1, e1, f1⟩ := bnd e
    obtain ⟨e1', h1⟩ := lfts e1
    obtain ⟨z, st2, e2, f2⟩ := bnd f1
    obtain ⟨h2, h3⟩ := getSs e2
    obtain ⟨v, st3, e3, f3⟩ := bnd f2
    obtain ⟨e3', h4⟩ := lfts e3
    obtain ⟨rfl, h5⟩ := purs f3
    subst h1 h2 h3 h4 h5
    obtain ⟨y, hσ, hy⟩ := s.get (srcAt_some e1')
    cases (show y = some (.ref g.a) from hy)
    exact ⟨_, hσ, g.a, .int v, rfl, .inl ⟨_, .inr k, .inl b.sa, rfl, (srcVal_some e3').symm⟩, q _ H F b.base (.int v)⟩

/-! source[k] = v -/
def srcPut (k : Str) (i : Int) (st : Pk) : Option Pk :=
  if k = "left" then (if 0 ≤ i then some { st with left := i } else none) else if k = "mixed" then some { st with mixed := i } else if k = "turn" then some { st with turn := i } else none
def putS (st : Pk) : M Unit := fun _ => some ((), st)
def mSrcPut (i : Nat) (k : Str) (m : Ev → M PyData) : Ev → M Fl := fun ρ => do
  let d ← m ρ; let _ ← lft (srcAt ρ i); let v ← lft (asI d); let st ← getS; let st' ← lft (srcPut k v st); let _ ← putS st'; pure (.nx ρ)
theorem srcPut_some {g : Gh} {k : Str} {st st' : Pk} {i : Int} (h : srcPut k i st = some st') (ok : st.ok) : putK (srcKv g st) (.inr k) (.int i) = srcKv g st' ∧ st'.ok ∧ st'.cells = st.cells := by
  unfold srcPut at h
  split at h
  · split at h
    · rename_i h0
      cases h; subst k; exact ⟨rfl, ⟨ok.cells, ok.len, h0⟩, rfl⟩
    · cases h
  · split at h
    · cases h; subst k; exact ⟨rfl, ⟨ok.cells, ok.len, ok.left⟩, rfl⟩
    · split at h
      · cases h; subst k; exact ⟨rfl, ⟨ok.cells, ok.len, ok.left⟩, rfl⟩
      · cases h
theorem ss_srcPut {i : Nat} {x k : Str} {xp p2 tpos : Pos} {j : Nat} (hu : X.A.units + 1 < cLine) (hv : PE X (.Name x xp) (tVar i)) (he : SE X e m) (hs : swapsWith e (some (.Subscript (.Name x xp) (.Constant (.str k) j p2) tpos)) pos.line X.env = pure false := by rfl) :
    SS X (.Assign [.Subscript (.Name x xp) (.Constant (.str k) j p2) tpos] e pos) (mSrcPut i k m) := fun g H0 F0 => (ps_dput hu hv pe_str (he g H0 F0) hs).imp fun D σ H ⟨ρ, F, st, fl, st', b, sl, e, q⟩ => by
  obtain ⟨d, st1, e1, f1⟩ := bnd e
  obtain ⟨u, st2, e2, f2⟩ := bnd f1
  obtain ⟨e2', h2⟩ := lfts e2
  obtain ⟨v, st3, e3, f3⟩ := bnd f2
  obtain ⟨e3', h3⟩ := lfts e3
  obtain ⟨z, st4, e4, f4⟩ := bnd f3
  obtain ⟨h4, h5⟩ := getSs e4
  obtain ⟨z2, st5, e5, f5⟩ := bnd f4
  obtain ⟨e5', h6⟩ := lfts e5
  obtain ⟨w, st6, e6, f6⟩ := bnd f5
  cases e6
  obtain ⟨rfl, h7⟩ := purs f6
  subst h2 h3 h4 h5 h6 h7
  cases asI_some e3'
  refine ⟨ρ, F, st, _, _, b, sl, e1, fun v' H1 F1 b1 r1 => ?_⟩
  cases r1
  obtain ⟨y, hσ, hy⟩ := (sl.step b1.stp).get (srcAt_some e2')
  cases (show y = some (.ref g.a) from hy)
  obtain ⟨p1, p2, p3⟩ := srcPut_some (g := g) e5' b1.ok
  refine ⟨_, hσ, g.a, upd H1 g.a (.dK (putK (srcKv g _) (.inr k) (.int v))), rfl, .inl ⟨_, .inr k, b1.sa, rfl, ?_, rfl⟩, ?_⟩
  · show (4 : Nat) < sizeLine
    decide
  · have b2 := (b.trans b1).src (st' := st') (H' := upd H1 g.a (.dK (putK (srcKv g st5) (.inr k) (.int v)))) (by rw [upd_same, p1]) (by rw [upd_ne (Ne.symm b.ne), p3]; exact b1.sl) p2 (fun c n1 n2 => upd_ne n1)
    have s2 : Stp g H F (upd H1 g.a (.dK (putK (srcKv g st5) (.inr k) (.int v)))) F1 := (b1.src (st' := st') (H' := upd H1 g.a (.dK (putK (srcKv g st5) (.inr k) (.int v)))) (by rw [upd_same, p1]) (by rw [upd_ne (Ne.symm b.ne), p3]; exact b1.sl) p2 (fun c n1 n2 => upd_ne n1)).stp
    exact q σ _ F1 b2 s2.fr (sl.step s2)

/-! cells = source['cells']; len(cells); cells.pop() -/
def mSrcCells (i j : Nat) : Ev → M Fl := fun ρ => do let _ ← lft (srcAt ρ i); pure (.nx (ρ.set j .scl))
theorem ss_srcCells {i j : Nat} {x y : Str} {xp p2 pos' epos : Pos} {jc : Nat} (hu : X.A.units + 1 < cLine) (hN : X.N.Nodup) (hv : PE X (.Name x xp) (tVar i)) (hi : X.N[j]? = some y := by rfl) (hx : Loc X.env.scope y := by first | exact Or.inl rfl | exact Or.inr rfl) (hs : swapsWith (.Subscript (.Name x xp) (.Constant (.str "cells") jc p2) epos) (some (.Name y pos')) pos.line X.env = pure false := by rfl)
    (hf : X.fn y = true ∨ X.env.scope.names.lookup y = some .local := by first | exact .inl rfl | exact .inr rfl) : SS X (.Assign [.Name y pos'] (.Subscript (.Name x xp) (.Constant (.str "cells") jc p2) epos) pos) (mSrcCells i j) := fun g H0 F0 =>
  (ps_set hN hi hx (pe_dget hu hv pe_str (by intro _ _; rfl)) hs hf).imp fun D σ H ⟨ρ, F, st, fl, st', b, sl, e, q⟩ => by
  obtain ⟨u, st1, e1, f1⟩ := bnd e
  obtain ⟨e1', h1⟩ := lfts e1
  obtain ⟨rfl, h5⟩ := purs f1
  subst h1 h5
  obtain ⟨y', hσ, hy⟩ := sl.get (srcAt_some e1')
  cases (show y' = some (.ref g.a) from hy)
  exact ⟨_, hσ, g.a, .ref g.l, rfl, .inl ⟨_, .inr "cells", .inl b.sa, rfl, rfl⟩, q _ H F b (.refl _) (sl.put (s := .scl) rfl rfl)⟩
def sclAt (ρ : Ev) (i : Nat) : Option Unit := match ρ[i]? with
  | some .scl => some ()
  | _ => none
theorem sclAt_some {ρ : Ev} {i : Nat} {u : Unit} (h : sclAt ρ i = some u) : ρ[i]? = some .scl := by
  unfold sclAt at h
  cases z : ρ[i]? with
  | none => rw [z] at h; cases h
  | some s => rw [z] at h; cases s <;> first | rfl | cases h
def mLenC (i : Nat) : Ev → M PyData := fun ρ => do let _ ← lft (sclAt ρ i); let st ← getS; pure (.int st.cells.length)
theorem se_lenC {i : Nat} {y : Str} {yp p : Pos} (hm : X.mg "len" = none) (hv : PE X (.Name y yp) (tVar i)) (hg : Gl X "len" := by rfl) (he : starEach [.Name y yp] X.env = (false, eval (.Name y yp) X.env) :: starEach [] X.env := by rfl) (hpl : (backTo pos (starEach [] X.env)).any (·.1) = false := by rfl) :
    SE X (.Call (.Name "len" p) [.Name y yp] [] pos) (mLenC i) := fun g H0 F0 =>
  (pe_callB call_len_seq hg hm (by decide +kernel) (pa_cons hv pa_nil he) (by decide) (by decide) he hpl).imp fun σ H Q ⟨ρ, F, st, d, st', b, s, e, q⟩ => by
    obtain ⟨u, st1, e1, f1⟩ := bnd e
    obtain ⟨e1', h1⟩ := lfts e1
    obtain ⟨z, st2, e2, f2⟩ := bnd f1
    obtain ⟨h2, h3⟩ := getSs e2
    obtain ⟨rfl, h5⟩ := purs f2
    subst h1 h2 h3 h5
    obtain ⟨y', hσ, hy⟩ := s.get (sclAt_some e1')
    cases (show y' = some (.ref g.l) from hy)
    have q' := q _ H F b.base (.int _)
    exact ⟨_, hσ, g.l, _, rfl, .inl (SqL.of b.sl), by rw [List.length_map]; exact q'⟩
def popD (st : Pk) : Option (Int × Pk) := match st.cells.getLast? with
  | some c => some (c, { st with cells := st.cells.dropLast })
  | none => none
def popS : M Int := fun st => popD st
def mPopC (i : Nat) : Ev → M PyData := fun ρ => do let _ ← lft (sclAt ρ i); let c ← popS; pure (.int c)
theorem se_popC {i : Nat} {y : Str} {yp apos cpos : Pos} (hv : PE X (.Name y yp) (tVar i)) (hbase : attributeBase (.Name y yp) "pop" X.env (eval (.Name y yp) X.env) = eval (.Name y yp) X.env := by rfl) (hline : (apos.endLine == cpos.line) = true := by rfl) :
    SE X (.Call (.Attribute (.Name y yp) "pop" apos) [] [] cpos) (mPopC i) := fun g H0 F0 =>
  (pe_bm0 PySem.F.plainAttrs_list PySem.F.slot_list_pop PySem.F.type_list_pop mt_pop hv hbase hline).imp fun σ H Q ⟨ρ, F, st, d, st', b, s, e, q⟩ => by
    obtain ⟨u, st1, e1, f1⟩ := bnd e
    obtain ⟨e1', h1⟩ := lfts e1
    obtain ⟨c, st2, e2, f2⟩ := bnd f1
    obtain ⟨rfl, h5⟩ := purs f2
    subst h1 h5
    have e2' : popD st1 = some (c, st') := e2
    unfold popD at e2'
    split at e2'
    · rename_i c' hc
      cases e2'
      obtain ⟨y', hσ, hy⟩ := s.get (sclAt_some e1')
      cases (show y' = some (.ref g.l) from hy)
      have hl : (st1.cells.map V.int)[(st1.cells.map V.int).length - 1]? = some (.int c) := by
        rw [List.length_map, List.getElem?_map]
        rw [List.getLast?_eq_getElem?] at hc
        rw [hc]; rfl
      refine ⟨_, hσ, .inl ⟨rfl, _, SqL.of b.sl⟩, g.l, _, _, rfl, rfl, b.sl, hl, ?_⟩
      have ok' : ({ st1 with cells := st1.cells.dropLast } : Pk).ok := ⟨fun z hz => b.ok.cells z (List.dropLast_subset _ hz), by show st1.cells.dropLast.length ≤ 63; rw [List.length_dropLast]; have := b.ok.len; omega, b.ok.left⟩
      exact q _ _ F (b.base.src (st' := { st1 with cells := st1.cells.dropLast }) (by rw [upd_ne b.ne]; exact b.sa) (by rw [upd_same, List.map_dropLast]) ok' (fun c _ n2 => upd_ne n2)) (.int c)
    · cases e2'
end
end DL
end

section
set_option Elab.async false
set_option linter.all false
set_option maxRecDepth 100000
set_option maxHeartbeats 4000000
/-! DL12: defs that may be called by their names; short forms that a program prints. -/
namespace DL
open PySem PySem.Spec PyProof.Rows L2
theorem Gd.blk {X : Cx} {k : Nat} (G : Gd X k) {s : Shared} {H : Hp} {scope : Scope} {cenv : Env} {fp : List Addr} : Gd (X.blk s H scope cenv fp) k := ⟨G.calm, G.nd, G.gu, G.room⟩
theorem Gd.u {X : Cx} {k : Nat} (G : Gd X k) : X.A.units + 64 < cLine := G.room.units
theorem Gd.u1 {X : Cx} {k : Nat} (G : Gd X k) : X.A.units + 1 < cLine := hu_of G.room
theorem blk_c (N : List Str) (sc : Scope) {scope : Scope} {own : List (Str × Nat)} (h1 : scope.kind = .function) (h2 : ∀ y ∈ scope.names, scope.names.lookup y.1 = some y.2) (h3 : ∀ p ∈ own, N[p.2]? = some p.1) (h4 : ∀ y ∈ scope.names, y.2 = .free → sc.names.lookup y.1 = some .cell ∨ sc.names.lookup y.1 = some .free)
    (h5 : ∀ y ∈ scope.names, y.2 = .local ∨ y.2 = .cell → y.1 ∈ own.map (·.1) ∨ y.1 ∉ N) : BlkOk N sc scope own := ⟨h1, h2, h3, h4, h5⟩
/-- a def that may be called by its name -/
structure Def (P : Program) (w : World) (K : PySem.W.Frag) (mg : Str → Option Value) (base : Heap) (k : Nat) (x : Str) (ps : List Str) (b : Bool) (mf : List PyData → M PyData) : Prop where
  ex : ∃ (f : Addr) (fd : FuncData), FnM P w K mg base k f fd ps b mf ∧ mg x = some (.ref f) ∧ PySem.W.keepIn K (.ref f) = true ∧ Binds K fd ps []
theorem Def.mono {P : Program} {w : World} {K : PySem.W.Frag} {mg : Str → Option Value} {base : Heap} {j k : Nat} {x : Str} {ps : List Str} {b : Bool} {mf : List PyData → M PyData} (D : Def P w K mg base j x ps b mf) (h : j ≤ k) : Def P w K mg base k x ps b mf :=
  let ⟨f, fd, F, r⟩ := D.ex; ⟨f, fd, F.mono h, r⟩
section
variable {X : Cx} {k : Nat} {ps : List Str} {x : Str} {p pos : Pos} {e a b c : Expr} {es : List Expr} {m ma mb mc : Ev → M PyData} {mf : List PyData → M PyData} {ms : Ev → M (List PyData)}
theorem se_callD (G : Gd X k) (D : Def X.prog X.w X.K X.mg X.base k x ps false mf) (ha : SA X (e :: es) ms) (hg : Gl X x := by rfl) (hdb : (x == ("__debug__" : Str)) = false := by decide)
    (he : starEach (e :: es) X.env = (false, eval e X.env) :: starEach es X.env := by rfl) (hpl : (backTo pos (starEach es X.env)).any (·.1) = false := by rfl) : SE X (.Call (.Name x p) (e :: es) [] pos) (mCall ps.length mf ms) :=
  let ⟨_, _, F, hm, hk, hb⟩ := D.ex; se_call F G.room G.gu hm hk hb ha hg hdb he hpl
theorem se_callD0 (G : Gd X k) (D : Def X.prog X.w X.K X.mg X.base k x [] false mf) (hg : Gl X x := by rfl) (hdb : (x == ("__debug__" : Str)) = false := by decide) : SE X (.Call (.Name x p) [] [] pos) (mCall 0 mf mNil) :=
  let ⟨_, _, F, hm, hk, hb⟩ := D.ex; se_call0 F G.room G.gu hm hk hb hg hdb
theorem se_callDS {n i : Nat} {y : Str} {yp : Pos} (G : Gd X k) (D : Def X.prog X.w X.K X.mg X.base k x ps true mf) (hs : PE X (.Name y yp) (tVar i)) (ha : SA X es ms) (hn : ps.length = n + 1 := by rfl) (hg : Gl X x := by rfl) (hdb : (x == ("__debug__" : Str)) = false := by decide)
    (he0 : starEach (.Name y yp :: es) X.env = (false, eval (.Name y yp) X.env) :: starEach es X.env := by rfl) (hpl : (backTo pos (starEach es X.env)).any (·.1) = false := by rfl) : SE X (.Call (.Name x p) (.Name y yp :: es) [] pos) (mCallS n i mf ms) :=
  let ⟨_, _, F, hm, hk, hb⟩ := D.ex; se_callS F G.room G.gu hm hk hb hs ha hn hg hdb he0 hpl
/-- a constant of the module that is data -/
theorem se_globD {v : Value} {d : PyData} (hm : X.mg x = some v) (hv : ∃ u, RelV u v ∧ ∀ F, Rp X.K F u d) (hg : Gl X x := by rfl) (hd : (x == ("__debug__" : Str)) = false := by decide) : SE X (.Name x pos) (mC d) :=
  let ⟨_, h1, h2⟩ := hv; se_of (pe_glob hg hm h1 hd) h2
theorem st_din (hu : X.A.units + 1 < cLine) (ha : SB X a ma) (hb : SB X b mb) (hm : behindInMarks .In b = false := by rfl) : STs X (.Compare a [.In] [b] pos) (mAsB (mOp inD ma mb)) := fun g H0 F0 => (pt_cmp (pc_din hu (ha g H0 F0) (hb g H0 F0)) hm).imp fun σ H Q ⟨ρ, F, st, k, st', b, s, e, q⟩ => by
  obtain ⟨d, st1, e1, f1⟩ := bnd e
  obtain ⟨e2, rfl⟩ := lfts f1
  cases asB_some e2
  refine two b s e1 fun x y v w H2 F2 e3 b2 r1 r2 => ?_
  obtain ⟨kvs, k', rfl, rfl, e4⟩ := inD_some e3
  cases e4
  cases key_v r1
  obtain ⟨a, ks, rfl, h, rk⟩ := r2.dict b2.sub
  refine ⟨a, _, rfl, (show DGet _ _ _ _ from .inl ⟨_, _, h, rfl, rfl⟩), _, rfl, ?_⟩
  rcases rk.look k' with ⟨z1, z2⟩ | ⟨v, d', z1, z2, rz⟩
  · rw [z1]; rw [z2] at q; exact q H2 F2 b2
  · rw [z1]; rw [z2] at q; exact q H2 F2 b2
end
end DL
end

section
set_option Elab.async false
set_option linter.all false
set_option maxRecDepth 100000
set_option maxHeartbeats 4000000
/-! DL13: the source opened; the law at the top. -/
namespace DL
open PySem PySem.Spec PyProof.Rows L2
def stirI : List Int → Int → Int
  | [], s => s
  | c :: cs, s => stirI cs ((s * 69069 + c * 31 + 5) % 2147483629)
def iabs (i : Int) : Int := if i < 0 then -i else i
def openS (ns : List Int) : Pk := ⟨(ns.map iabs).reverse, 1, stirI ns 11, 0⟩
theorem openS_ok {ns : List Int} (h : ns.length ≤ 63) : (openS ns).ok := ⟨fun c hc => by
  obtain ⟨x, _, rfl⟩ := List.mem_map.mp (List.mem_reverse.mp hc)
  unfold iabs
  split <;> omega, by show (ns.map iabs).reverse.length ≤ 63; simpa using h, by show (0 : Int) ≤ 1; decide⟩
theorem stirI_snoc (s : Int) : ∀ (ns : List Int) (i : Nat) (x : Int), ns[i]? = some x → stirI (ns.take (i + 1)) s = (stirI (ns.take i) s * 69069 + x * 31 + 5) % 2147483629
  | [], i, x, h => by simp at h
  | n :: ns, 0, x, h => by
    cases (show some n = some x from h)
    simp [stirI]
  | n :: ns, i + 1, x, h => by
    rw [List.take_succ_cons, List.take_succ_cons]
    exact stirI_snoc _ ns i x (by simpa using h)
/-- a source laid new -/
def spOpen (K : PySem.W.Frag) : List V → Hp → VK → Prop := fun vs H Q => ∃ (a : Addr) (ns : List Int), vs = [.ref a] ∧ SqL K H a (ns.map V.int) ∧ ns.length ≤ 63 ∧
  ∀ (H' : Hp) (g : Gh), Same H H' → g.a ≠ g.l → H g.a = none → H g.l = none → H' g.a = some (.dK (srcKv g (openS ns))) → H' g.l = some (.lst ((openS ns).cells.map V.int)) → Q (.ref g.a) H'
/-- what the law is called with -/
def spLaw (K : PySem.W.Frag) : List V → Hp → VK → Prop := fun vs H Q => ∃ (a : Addr) (ns : List Int), vs = [.ref a] ∧ SqL K H a (ns.map V.int) ∧ ns.length ≤ 63 ∧ (∀ n ∈ ns, Builtin.Int.intBits n ≤ 1048576) ∧ ∀ H', Q (.bl true) H'
theorem open_bs {g : Gh} {H : Hp} {ns : List Int} (hz : ns.length ≤ 63) (ne : g.a ≠ g.l) (h1 : H g.a = some (.dK (srcKv g (openS ns)))) (h2 : H g.l = some (.lst ((openS ns).cells.map V.int))) : Bs g H (fun _ => none) H (fun _ => none) (openS ns) :=
  ⟨(fun _ _ h => by cases h), h1, h2, rfl, rfl, ne, openS_ok hz, Stp.refl _ _ _⟩
/-- a frame in which nothing stands but the source, at place 1 -/
def evL (n : Nat) : Ev := .no :: .src :: List.replicate (n - 2) .no
theorem evL_slots {K : PySem.W.Frag} {g : Gh} {H0 H F : Hp} {N : List Str} {a : V} (h2 : 2 ≤ N.length) : Slots K g H0 H F ((L2.start N [a]).set 1 (some (.ref g.a))) (evL N.length) := by
  have hl : (L2.start N [a]).length = N.length := by
    unfold L2.start
    rw [List.length_append, List.length_map, List.length_replicate, List.length_singleton]; omega
  have no : ∀ (i : Nat) (s : Sl), (evL N.length)[i]? = some s → s = .no ∨ (s = .src ∧ i = 1) := by
    intro i s e
    unfold evL at e
    match i, e with
    | 0, e => exact .inl (by simpa using e.symm)
    | 1, e => exact .inr ⟨by simpa using e.symm, rfl⟩
    | i + 2, e =>
      have e' : (List.replicate (N.length - 2) Sl.no)[i]? = some s := by simpa using e
      exact .inl (List.mem_replicate.mp (List.mem_of_getElem? e')).2
  refine ⟨?_, fun i s x e1 e2 => ?_, fun i j s t c hij e1 e2 o1 o2 _ _ => ?_⟩
  · rw [List.length_set, hl]
    unfold evL
    rw [List.length_cons, List.length_cons, List.length_replicate]; omega
  · rcases no i s e1 with rfl | ⟨rfl, rfl⟩
    · exact True.intro
    · rw [List.getElem?_set_self (by rw [hl]; omega)] at e2
      cases e2; rfl
  · rcases no i s e1 with rfl | ⟨rfl, rfl⟩ <;> cases o1
/-- the law behind its first line -/
def tLawR (K : PySem.W.Frag) (m : Ev → M Fl) : TS := fun D σ H => ∃ g H0 F0, tS K g H0 F0 m D σ H
theorem pss_law {X : Cx} {ss : List Stmt} {m : Ev → M Fl} (h : SSs X ss m) : PSs X ss (tLawR X.K m) := ⟨fun pins s σ H D I ⟨g, H0, F0, q⟩ => (h g H0 F0).run pins s σ H D I q⟩
/-- what is to be shown of the law's mirror -/
def LawOk (n : Nat) (m : Ev → M Fl) : Prop := ∀ ns : List Int, ns.length ≤ 63 → (∀ z ∈ ns, Builtin.Int.intBits z ≤ 1048576) → ∃ st', m (evL n) (openS ns) = some (.rt (.bool true), st')
theorem fnG_law {P : Program} {w : World} {K : PySem.W.Frag} {mg : Str → Option Value} {base : Heap} {k : Nat} {f : Addr} {fd : FuncData} {st : Stmt} {N : List Str} {m : Ev → M Fl} (F : Fun K "law" "law" st f fd) (S : FnScope N ["script"] (defScope st)) (h2 : 2 ≤ N.length) (hm : LawOk N.length m)
    (hbody : ∀ (cdv : Value) (A : Around) (outer : List Env) (s : Shared) (H : Hp), Gd (cxOf CX0 P w K mg base N "law" (defScope st) f cdv A outer s H E0).nox k →
      PSs (cxOf CX0 P w K mg base N "law" (defScope st) f cdv A outer s H E0).nox (defBody st) (tSeq (tAsg (fun σ H Q => (tCons (tVar 0) tNil) σ H fun vs H1 => spOpen K vs H1 Q) (gName 1)) (tLawR K m))) :
    FnG P w K mg base (k + 1) f fd ["script"] (spLaw K) :=
  fnG_of F S (fun vs H Q h => by obtain ⟨a, ns, rfl, _⟩ := h; rfl) fun cdv A outer s H vs Q hr hgu ⟨a, ns, ev, hS, hz, hb, q⟩ => by
    refine ⟨_, hbody cdv A outer s H ⟨rfl, S.nd, hgu, hr⟩, ?_⟩
    subst ev
    have h0 : (L2.start N [V.ref a])[0]? = some (some (.ref a)) := rfl
    refine ⟨_, h0, a, ns, rfl, hS, hz, fun H' g sm ne n1 n2 h1 h2' => ?_⟩
    obtain ⟨st', e⟩ := hm ns hz hb
    refine ⟨g, H', fun _ => none, evL N.length, _, _, _, st', open_bs hz ne h1 h2', evL_slots h2, e, fun v H2 F2 _ _ r => ?_⟩
    cases r
    exact q H2

/-- what the opening's body does, read off -/
def tOpen (K : PySem.W.Frag) : TS :=
  tSeq (tAsg (tC (V.int 11)) (gName 1))
    (tSeq (tFor (iList K (tVar 0)) (gName 2)
        (tAsg (tOp (rI (fun x j => 0 < j) fun i j => V.int (i % j))
            (tCB (fun xs H Q => (∃ i, xs = [V.int i] ∧ Q (V.int i) H) ∨ ∃ k, xs = [V.bl k] ∧ Q (V.int (if k = true then 1 else 0)) H)
              (tCons (tOp (rI0 fun i j => V.int (i + j)) (tOp (rI0 fun i j => V.int (i + j)) (tOp (rI CMul fun i j => V.int (i * j)) (tVar 1) (tC (V.int 69069))) (tOp (rI CMul fun i j => V.int (i * j)) (tVar 2) (tC (V.int 31)))) (tC (V.int 5))) tNil))
            (tC (V.int 2147483629))) (gName 1)))
      (tSeq (tAsg (tLc (iList K (tVar 0)) (gName 2) tYes (tCB (fun xs H Q => ∃ i, xs = [V.int i] ∧ Q (V.int (if i < 0 then -i else i)) H) (tCons (tVar 2) tNil)) [2]) (gName 3))
        (tRet (tDisp [(tC (V.str "cells"), tRevL K (tVar 3)), (tC (V.str "left"), tC (V.int 1)), (tC (V.str "mixed"), tVar 1), (tC (V.str "turn"), tC (V.int 0))]))))
theorem same_updZ {H : Hp} {p : Addr} {o : HO} (h : H p = none) : Same H (upd H p o) := fun b x e => by
  rw [upd_ne (ne_of_none e h)]
  exact e
theorem open_read {K : PySem.W.Frag} {H : Hp} {a : Addr} {ns : List Int} {Q : VK} (hS : SqL K H a (ns.map V.int)) (hz : ns.length ≤ 63)
    (q : ∀ (H' : Hp) (g : Gh), Same H H' → g.a ≠ g.l → H g.a = none → H g.l = none → H' g.a = some (.dK (srcKv g (openS ns))) → H' g.l = some (.lst ((openS ns).cells.map V.int)) → Q (.ref g.a) H') :
    tOpen K { nx := fun _ H' => Q .non H', rt := Q } (L2.start ["script", "stirred", "cell", "cells"] [V.ref a]) H := by
  have at_ : ∀ (i : Nat) (x : V), (ns.map V.int)[i]? = some x → ∃ z, ns[i]? = some z ∧ x = .int z := fun i x h => by
    rw [List.getElem?_map] at h
    obtain ⟨z, h1, h2⟩ := Option.map_eq_some_iff.mp h
    exact ⟨z, h1, h2.symm⟩
  refine ⟨_, rfl, a, rfl, ⟨_, hS⟩, for_list (K := K) (a := a) (xs := ns.map V.int) (fun i σ H2 => ∃ v : Option V, σ = [some (.ref a), some (.int (stirI (ns.take i) 11)), v, none] ∧ H2 = H) ⟨none, rfl, rfl⟩ (fun i σ H2 _ ⟨_, _, e⟩ => by rw [e]; exact hS) ?_ ?_⟩
  · rintro i x σ H2 hi ⟨v, rfl, rfl⟩
    obtain ⟨z, hz', rfl⟩ := at_ i x hi
    refine ⟨_, rfl, _, _, rfl, rfl, Or.inr ⟨by decide, by decide⟩, _, rfl, _, _, rfl, rfl, Or.inr ⟨by decide, by decide⟩, _, _, rfl, rfl, _, _, rfl, rfl, .inl ⟨_, rfl, _, _, rfl, rfl, (by show (0 : Int) < 2147483629; decide), ?_⟩⟩
    exact ⟨some (.int z), by rw [stirI_snoc _ ns i z hz']; rfl, rfl⟩
  · rintro σ H2 ⟨v, rfl, rfl⟩
    rw [List.length_map, List.take_length]
    refine ⟨_, rfl, a, rfl, ⟨_, hS⟩, fun D hD => ?_⟩
    have sD : ∀ o, SqL K (upd H2 D o) a (ns.map V.int) := fun o => (same_updZ hD).seq hS
    refine ⟨fun i m H3 => i ≤ ns.length ∧ m = ns.length - i ∧ H3 = upd H2 D (.lst (((ns.map iabs).take i).map V.int)), ⟨ns.length, Nat.zero_le _, rfl, rfl⟩, ?_⟩
    rintro i m H3 ⟨hi, rfl, rfl⟩
    by_cases hl : i < ns.length
    · have hx : ns[i]? = some ns[i] := List.getElem?_eq_getElem hl
      have hx' : (ns.map V.int)[i]? = some (.int ns[i]) := by rw [List.getElem?_map, hx]; rfl
      refine .inr ⟨⟨_, _, sD _, hx'⟩, fun H' => H' = upd H2 D (.lst (((ns.map iabs).take (i + 1)).map V.int)), fun H' e => ⟨ns.length - (i + 1), by omega, by omega, rfl, e⟩, ?_⟩
      rintro x H4 ⟨rfl, hy⟩
      have ex := hy _ (sD _)
      rw [hx'] at ex
      cases ex
      refine ⟨rfl, ?_⟩
      refine ⟨_, rfl, _, rfl, _, upd_same, ?_, ?_⟩
      · rw [List.length_map, List.length_take, List.length_map]
        have : (1000000 : Nat) < sizeLine := by decide
        omega
      · rw [upd_upd]
        have hab : (ns.map iabs)[i]? = some (iabs ns[i]) := by rw [List.getElem?_map, hx]; rfl
        rw [List.take_add_one, hab, List.map_append]
        rfl
    · have ei : i = ns.length := by omega
      subst ei
      refine .inl ⟨⟨_, sD _, by rw [List.length_map]; exact Nat.le_refl _⟩, ?_⟩
      have tk : ((ns.map iabs).take ns.length) = ns.map iabs := List.take_of_length_le (by rw [List.length_map]; exact Nat.le_refl _)
      rw [tk]
      intro p hp
      have npD : p ≠ D := fun z => by rw [z, upd_same] at hp; cases hp
      have hp0 : H2 p = none := by rw [upd_ne npD] at hp; exact hp
      refine ⟨_, rfl, D, _, rfl, SqL.of (by rw [upd_ne (Ne.symm npD), upd_same]), fun l hl2 => ?_⟩
      have nlp : l ≠ p := fun z => by rw [z, upd_same] at hl2; cases hl2
      have hl3 : (upd H2 D (.lst ((ns.map iabs).map V.int))) l = none := by rw [upd_ne nlp] at hl2; exact hl2
      have nlD : l ≠ D := fun z => by rw [z, upd_same] at hl3; cases hl3
      have hl0 : H2 l = none := by rw [upd_ne nlD] at hl3; exact hl3
      refine ⟨_, rfl, ?_⟩
      refine ⟨by rw [upd_ne (Ne.symm nlp), upd_same], [(.inr "cells", .ref l), (.inr "left", .int 1), (.inr "mixed", .int (stirI ns 11)), (.inr "turn", .int 0)], rfl, (by show (4 : Nat) ≤ 15; decide), ?_⟩
      refine q _ ⟨p, l⟩ (fun b x e => ?_) (Ne.symm nlp) hp0 hl0 ?_ ?_
      · rw [upd_ne (ne_of_none e hp0), upd_ne (ne_of_none e hl0), upd_ne (ne_of_none e hp0), upd_ne (ne_of_none e hD)]
        exact e
      · rw [upd_same]; rfl
      · rw [upd_ne nlp, upd_same]
        show some (HO.lst _) = some (HO.lst (((ns.map iabs).reverse).map V.int))
        rw [List.map_reverse]
end DL
end

section
set_option Elab.async false
set_option linter.all false
set_option maxRecDepth 100000
set_option maxHeartbeats 4000000
/-! DL14: from the law's promise to what the head leaves. -/
namespace DL
open PySem PySem.Spec PyProof.Rows L2
section
variable {P : Program} {w : World} {K : PySem.W.Frag} {mg mb : Str → Option Value} {k : Nat} {fa a : Addr} {fd : FuncData} {s₁ : Shared} {vs : List Value} {ns : List Int}
abbrev Won (s₁ : Shared) : Result → Shared → Prop := fun r s' => r = .ok (.ret (.bool true)) ∧ OldK s₁.heap s'.heap ∧ s'.os = s₁.os ∧ AllBare s'.gens
/-- nothing but the script is tracked in H -/
structure Lone (P : Program) (w : World) (K : PySem.W.Frag) (a : Addr) (h : Heap) (H : Hp) (ns : List Int) : Prop where
  only : Only H
  seq : SqL K H a (ns.map V.int)
  hok : HOk P w H h
  sole : ∀ b, H b ≠ none → b = a
  out : H a ≠ none → K.lookup a = none
theorem Lone.none {h : Heap} {H : Hp} (L : Lone P w K a h H ns) {b : Addr} (hb : b = a → H a = none) : H b = none := by
  cases q : H b with
  | none => rfl
  | some u =>
    have e := L.sole b (by rw [q]; simp)
    subst e
    rw [hb rfl] at q; cases q
theorem lone_run (KX : K.In s₁.heap) (hns : s₁.heap.Ns mainGlobals mg) (hb : s₁.heap.Ns builtinsNs mb) (hbb : ∀ x : Str, x ≠ "__name__" → mb x = bootBuiltins x) (hlim : s₁.heap.NoLimit) (hg : s₁.gens = #[])
    (ha : s₁.heap.get? a = some { cls := .type "list", data := .seq vs.toArray }) (hz : ns.length ≤ 63) (hbits : ∀ n ∈ ns, Builtin.Int.intBits n ≤ 1048576) (hr : Room k callerA)
    (F : ∀ base : Heap, K.In base → base.Ns mainGlobals mg → FnG P w K mg base k fa fd ["script"] (spLaw K)) (hbind : ∀ (s : Shared) (u : Value), BindsTo s fd ⟨[u], []⟩ [("script", u)])
    {H : Hp} (L : Lone P w K a s₁.heap H ns) : codeAny (model P w) callerA (.call (.ref fa) ⟨[.ref a], []⟩) (Won s₁) s₁ := by
  have nodict : ∀ {b : Addr} {o : Obj} {es : Array DictEntry} {ep : Nat}, s₁.heap.get? b = some o → o.data = .dict es ep → H b = none := fun {b o es ep} e d => L.none fun z => by
    subst z
    rw [ha] at e; cases e
    exact absurd (show Data.seq vs.toArray _ = Data.dict es ep from d) (fun z => by cases z)
  have ns_ : ∀ {b : Addr} {m : Str → Option Value}, s₁.heap.Ns b m → (hidT s₁.heap H).Ns b m := fun {b m} ⟨o, es, ep, e, d, r⟩ => ⟨o, es, ep, hidT_get e (nodict e d), d, r⟩
  have kin : K.In (hidT s₁.heap H) := fun b o e => hidT_get (KX b o e) (L.none fun z => by
    subst z
    cases q : H b with
    | none => rfl
    | some u => rw [L.out (by rw [q]; simp)] at e; cases e)
  have md : Mod K mg (hidT s₁.heap H) := ⟨kin, ns_ hns, ⟨mb, ns_ hb, hbb⟩, let ⟨mc, h1, h2⟩ := hlim; ⟨mc, ns_ h1, h2⟩⟩
  have env : Env0 P w K mg (hidT s₁.heap H) callerA [] s₁ H := ⟨rfl, md, fun b o e => of_hidT e, Nat.le_of_eq (hidT_size _ _), trivial, (fun b hb => nomatch hb), L.hok, .of_eq hg⟩
  have run := (F _ kin (ns_ hns)).run callerA [] s₁ H ⟨[.ref a], []⟩ [.ref a] [.ref a] (fun v _ => v = .bl true) hr rfl env (hbind s₁ (.ref a)) (.cons rfl .nil) ⟨a, ns, rfl, L.seq, hz, hbits, fun _ => rfl⟩
  refine codeAny_mono run fun r s' h => ?_
  match r, h with
  | .error e, h => exact False.elim h
  | .ok .next, h => exact False.elim h
  | .ok .brk, h => exact False.elim h
  | .ok .cont, h => exact False.elim h
  | .ok (.ret u), h =>
    obtain ⟨v, H', os, bare, un, hok', rv, ev⟩ := h
    subst ev
    cases (show u = Value.bool true from rv)
    refine ⟨rfl, OldK.of_keep fun b o e => ?_, os, bare⟩
    cases q : H b with
    | none => exact un.keep b o e q (fun z => nomatch z) (fun z => nomatch z)
    | some u =>
      rcases L.only b with z | ⟨ob, xs, z⟩
      · rw [q] at z; cases z
      · obtain ⟨e1, _⟩ := L.hok b _ z
        obtain ⟨e2, _⟩ := hok' b _ (un.frzs b ob _ z)
        rw [e] at e1; cases e1
        exact e2
/-- H tracks the script's list, or nothing -/
theorem lone_ex (KX : K.In s₁.heap) (ha : s₁.heap.get? a = some { cls := .type "list", data := .seq vs.toArray }) (hi : IntsAre vs ns) (hz : ns.length ≤ 63) : ∃ H, Lone P w K a s₁.heap H ns := by
  have rv := vals_ints hi
  have hl : ns.length ≤ sizeLine := Nat.le_trans hz (by decide)
  cases hk : K.lookup a with
  | some o =>
    have e := KX a o hk
    rw [ha] at e
    cases e
    exact ⟨fun _ => none, ⟨fun _ => .inl rfl, .inr ⟨_, vs.toArray, _, hk, rfl, rfl, rfl, by rw [List.size_toArray, hi.length]; exact hl, by simpa using rv⟩, (fun b u z => nomatch z), fun b z => absurd rfl z, fun z => absurd rfl z⟩⟩
  | none =>
    have at_ : ∀ b u, (fun b => if b = a then some (HO.frz { cls := .type "list", data := .seq vs.toArray } (.lst (ns.map V.int))) else none) b = some u → b = a ∧ u = HO.frz { cls := .type "list", data := .seq vs.toArray } (.lst (ns.map V.int)) := fun b u z => by
      by_cases hb : b = a
      · exact ⟨hb, (Option.some.inj ((if_pos hb).symm.trans z)).symm⟩
      · exact absurd ((if_neg hb).symm.trans z) (fun z => nomatch z)
    refine ⟨fun b => if b = a then some (HO.frz { cls := .type "list", data := .seq vs.toArray } (.lst (ns.map V.int))) else none, ⟨fun b => ?_, .inl (.inr ⟨_, if_pos rfl⟩), fun b u z => ?_, fun b z => ?_, fun _ => hk⟩⟩
    · by_cases hb : b = a
      · exact .inr ⟨_, _, if_pos hb⟩
      · exact .inl (if_neg hb)
    · obtain ⟨rfl, rfl⟩ := at_ b u z
      exact ⟨ha, by rw [List.length_map]; exact hl, vs, _, rv, ha⟩
    · cases q : (if b = a then some (HO.frz { cls := .type "list", data := .seq vs.toArray } (.lst (ns.map V.int))) else none) with
      | none => exact absurd q z
      | some u => exact (at_ b u q).1
end
/-- the goal that the head leaves -/
theorem walk_ofG {l : PySem.W.OpenLaw} {k : Nat} {q : Program} {loose : List Str} {XP : (Str → Option Value) → Heap → Prop} {YP : World → Heap → Prop} {d : DefRec} {K : Params → PySem.W.Frag}
    (hn : l.most = some 63) (hdf : d.params.defaults = []) (hr : Room k callerA) (hY : ∀ (w : World) (h : Heap), YP w h → (K w.params).In h)
    (F : ∀ (w : World) (mg : Str → Option Value) (fa : Addr) (h : Heap), (K w.params).In h → h.Ns mainGlobals mg → mg d.name = some (.ref fa) →
      ∃ fd : FuncData, (∀ (s : Shared) (u : Value), BindsTo s fd ⟨[u], []⟩ [("script", u)]) ∧ ∀ base : Heap, (K w.params).In base → base.Ns mainGlobals mg → FnG l.prog w (K w.params) mg base k fa fd ["script"] (spLaw (K w.params))) :
    PySem.W.WalkO q loose XP YP l.row.toRowW d [] (fun f vs => PySem.call f vs) := by
  refine Att.attach_callB hn hdf fun w s₀ s₁ mg mb fa o pm cd doc a vs ns G Y ho hd hcd hmg hobj hints hlen hbits hg => ?_
  obtain ⟨fd, hb, hF⟩ := F w mg fa _ (hY w _ Y) G.T.g hmg
  obtain ⟨H, L⟩ := lone_ex (P := l.prog) (w := w) (hY w _ Y) hobj hints hlen
  exact lone_run (hY w _ Y) G.T.g G.T.b G.T.builtins G.T.nolimit hg hobj hlen hbits hr hF hb L
theorem vals_int {i : Int} {t : Tok} {xs : List V} {us : List Value} (h : Vals xs us) : Vals (.int i :: xs) (.int i t :: us) := .cons ⟨t, rfl⟩ h
theorem vals_ref {a : Addr} {xs : List V} {us : List Value} (h : Vals xs us) : Vals (.ref a :: xs) (.ref a :: us) := .cons rfl h
theorem tpK_mk {K : PySem.W.Frag} {F : Hp} {a : Addr} {its : Array Value} {n : Nat} {s : Array (Option Value)} {xs : List V} (h : K.lookup a = some ⟨.type "tuple", none, .seq its n, s⟩) (hz : its.size ≤ 1000) (v : Vals xs its.toList) : TpK K F a xs :=
  .inr ⟨_, its, n, h, rfl, rfl, rfl, Nat.le_trans hz (by decide), v⟩
end DL
end

section
set_option Elab.async false
set_option linter.all false
set_option maxRecDepth 100000
set_option maxHeartbeats 4000000
/-! DL15: mirrors worked out. -/
namespace DL
open PySem PySem.Spec
theorem lft_some {α : Type} (a : α) : (lft (some a) : M α) = pure a := rfl
theorem getE0 {α : Type} (a : α) (l : List α) : (a :: l)[0]? = some a := rfl
theorem getES {α : Type} (a : α) (l : List α) (n : Nat) : (a :: l)[n + 1]? = l[n]? := by simp
theorem rdV_vl (d : PyData) : rdV (some (.vl d)) = some d := rfl
theorem rdB_vl (d : PyData) : rdB (some (.vl d)) = some d := rfl
theorem rdB_ol (d : List PyData) : rdB (some (.ol d)) = some (.list d) := rfl
theorem rdB_od (d : List (PyData × PyData)) : rdB (some (.od d)) = some (.dict d) := rfl
theorem asB_b (b : Bool) : asB (.bool b) = some b := rfl
theorem asI_i (b : Int) : asI (.int b) = some b := rfl
theorem seqD_l (d : List PyData) : seqD (.list d) = some d := rfl
theorem seqD_t (d : List PyData) : seqD (.tuple d) = some d := rfl
theorem keysL_d (d : List (PyData × PyData)) : keysL (.dict d) = some (d.map (·.1)) := rfl
theorem lenI1 {α : Type} (a : α) : lenI 1 [a] = some [a] := rfl
theorem lenI2 {α : Type} (a b : α) : lenI 2 [a, b] = some [a, b] := rfl
theorem lenI3 {α : Type} (a b c : α) : lenI 3 [a, b, c] = some [a, b, c] := rfl
/-- runs from every state, and what it gives -/
def Tri {α : Type} (m : M α) (P : α → Prop) : Prop := ∀ st : Pk, st.ok → ∃ a st', m st = some (a, st') ∧ st'.ok ∧ P a
theorem Tri.pure {α : Type} {a : α} {P : α → Prop} (h : P a) : Tri (Pure.pure a : M α) P := fun st ok => ⟨a, st, rfl, ok, h⟩
theorem Tri.eq {α : Type} {m : M α} {a : α} {P : α → Prop} (e : m = Pure.pure a) (h : P a) : Tri m P := e ▸ Tri.pure h
theorem Tri.bind {α β : Type} {m : M α} {f : α → M β} {P : α → Prop} {Q : β → Prop} (h : Tri m P) (hf : ∀ a, P a → Tri (f a) Q) : Tri (m >>= f) Q := fun st ok => by
  obtain ⟨a, st1, e, ok1, p⟩ := h st ok
  obtain ⟨b, st2, e2, ok2, q⟩ := hf a p st1 ok1
  refine ⟨b, st2, ?_, ok2, q⟩
  show (m st).bind (fun p => f p.1 p.2) = _
  rw [e]; exact e2
theorem Tri.mono {α : Type} {m : M α} {P Q : α → Prop} (h : Tri m P) (hi : ∀ a, P a → Q a) : Tri m Q := fun st ok => let ⟨a, st', e, k, p⟩ := h st ok; ⟨a, st', e, k, hi a p⟩
theorem Tri.lft {α : Type} {o : Option α} {a : α} {P : α → Prop} (e : o = some a) (h : P a) : Tri (DL.lft o) P := by subst e; exact Tri.pure h
theorem fn_rt {b : Bool} {n : Nat} {m : Ev → M Fl} {ds : List PyData} {d : PyData} (h : m (ev0 b n ds) = pure (.rt d)) : fnM b n m ds = pure d := by
  unfold fnM
  rw [h]; rfl
/-! comprehensions and loops whose steps touch nothing -/
theorem lcM_pure {f : PyData → M (Option PyData)} {g : PyData → Option PyData} : ∀ {ds : List PyData}, (∀ d ∈ ds, f d = pure (g d)) → lcM ds f = pure (ds.filterMap g)
  | [], _ => rfl
  | d :: ds, h => by
    unfold lcM
    rw [h d List.mem_cons_self, lcM_pure fun x hx => h x (List.mem_cons_of_mem _ hx), List.filterMap_cons]
    cases g d <;> rfl
theorem boolsOf_map : ∀ ns : List Bool, boolsOf (ns.map PyData.bool) = some ns := boolsOf_bools
theorem lcM_bools {f : PyData → M (Option PyData)} {g : PyData → Bool} {ds : List PyData} (h : ∀ d ∈ ds, f d = pure (some (.bool (g d)))) : lcM ds f = pure ((ds.map g).map PyData.bool) := by
  rw [lcM_pure h]
  congr 1
  induction ds with
  | nil => rfl
  | cons d ds ih => rw [List.filterMap_cons]; simp [ih fun x hx => h x (List.mem_cons_of_mem _ hx)]
theorem lcM_filter {f : PyData → M (Option PyData)} {c : PyData → Bool} {h : PyData → PyData} {ds : List PyData} (hf : ∀ d ∈ ds, f d = pure (if c d = true then some (h d) else none)) : lcM ds f = pure ((ds.filter c).map h) := by
  rw [lcM_pure hf]
  congr 1
  clear hf
  induction ds with
  | nil => rfl
  | cons d ds ih =>
    rw [List.filterMap_cons, List.filter_cons]
    cases hc : c d with
    | true => simp [ih]
    | false => simp [ih]
theorem lcM_map {f : PyData → M (Option PyData)} {h : PyData → PyData} {ds : List PyData} (hf : ∀ d ∈ ds, f d = pure (some (h d))) : lcM ds f = pure (ds.map h) := by
  rw [lcM_pure hf]
  congr 1
  clear hf
  induction ds with
  | nil => rfl
  | cons d ds ih => rw [List.filterMap_cons, List.map_cons, ih]
theorem eqF_nil (xs : List PyData) : eqF (.list xs) (.list []) = some xs.isEmpty := by
  unfold eqF
  cases xs with
  | nil => rw [if_pos ⟨rfl, rfl, .inl (by simp [PyData.depth, PyData.depthAll])⟩]; simp [PyData.eqv, PyData.eqvAll]
  | cons x xs =>
    split
    · simp [PyData.eqv, PyData.eqvAll]
    · simp
theorem eqD_nil (xs : List PyData) : eqD (.list xs) (.list []) = some (.bool xs.isEmpty) := by unfold eqD; rw [eqF_nil]; rfl
theorem neD_nil (xs : List PyData) : neD (.list xs) (.list []) = some (.bool (!xs.isEmpty)) := by unfold neD; rw [eqF_nil]; rfl
theorem mulD_ok {i j : Int} (h : j.natAbs < 1152921504606846976 ∨ i.natAbs < 1152921504606846976) : mulD (.int i) (.int j) = some (.int (i * j)) := if_pos (h.elim .inl fun h => .inr (.inl h))
theorem p62 : (2 : Int) ^ 62 = 4611686018427387904 := by decide
theorem rng1D_ok {j : Int} (h1 : -1000000000 ≤ j) (h2 : j ≤ 1000000000) : rng1D [.int j] = some (rngD 0 j.toNat) := by
  show (if -(2 ^ 62) ≤ j ∧ j < 2 ^ 62 then some (rngD 0 j.toNat) else none) = _
  rw [p62, if_pos ⟨by omega, by omega⟩]
theorem rng2D_ok {i j : Int} (h1 : -1000000000 ≤ i) (h2 : i ≤ 1000000000) (h3 : -1000000000 ≤ j) (h4 : j ≤ 1000000000) : rng2D [.int i, .int j] = some (rngD i (j - i).toNat) := by
  show (if -(2 ^ 62) ≤ i ∧ i < 2 ^ 62 ∧ -(2 ^ 62) ≤ j ∧ j < 2 ^ 62 then some (rngD i (j - i).toNat) else none) = _
  rw [p62, if_pos ⟨by omega, by omega, by omega, by omega⟩]
theorem cutP_from1 (ds : List PyData) : cutP ds (some 1) none = ds.drop 1 := by
  unfold cutP
  rw [show HT.sIx ds.length 0 (some 1) = min 1 ds.length from HT.sIx_nat ds.length 0 1, HT.sIx_none]
  cases ds with
  | nil => rfl
  | cons x r =>
    rw [show min 1 (x :: r).length = 1 by rw [List.length_cons]; omega, List.take_of_length_le]
    rw [List.length_drop]; exact Nat.le_refl _
theorem allD_map (bs : List Bool) : allD [.list (bs.map PyData.bool)] = some (.bool (bs.all id)) := by
  show (boolsOf (bs.map PyData.bool)).map _ = _
  rw [boolsOf_map]; rfl
theorem allD_mapc (g : PyData → Bool) (ds : List PyData) : allD [.list (ds.map (PyData.bool ∘ g))] = some (.bool (ds.all g)) := by
  rw [← List.map_map, allD_map, List.all_map]; rfl
theorem eqF_int (i j : Int) : eqF (.int i) (.int j) = some (decide (i = j)) := by
  unfold eqF
  rw [if_pos ⟨rfl, rfl, .inl (by simp [PyData.depth])⟩]
  simp [PyData.eqv]
  by_cases h : i = j <;> simp [h]
theorem neD_int (i j : Int) : neD (.int i) (.int j) = some (.bool (!decide (i = j))) := by unfold neD; rw [eqF_int]; rfl
theorem eqD_int (i j : Int) : eqD (.int i) (.int j) = some (.bool (decide (i = j))) := by unfold eqD; rw [eqF_int]; rfl

/-! ### data that can be shown -/
mutual
def txt : PyData → Bool
  | .none | .bool _ | .int _ => true
  | .str x => x.cps.toList.all fun c => decide (c < 16 ^ 8)
  | .list xs | .tuple xs => txtAll xs
  | .dict kvs => txtKv kvs
def txtAll : List PyData → Bool
  | [] => true
  | x :: xs => txt x && txtAll xs
def txtKv : List (PyData × PyData) → Bool
  | [] => true
  | (k, v) :: r => txt k && txt v && txtKv r
end
theorem int_short {i : Int} (h : (PyData.int i).weight ≤ 900) : i.natAbs.log2 < 900 := by
  by_cases h0 : i = 0
  · subst h0; decide
  · have : (PyData.int i).weight = i.natAbs.log2 + 1 := by
      simp only [PyData.weight]
      rw [if_neg (by simpa using h0)]
    omega
mutual
theorem leaves_ok : ∀ d : PyData, d.weight ≤ 900 → txt d = true → d.leavesShort 1000 = true ∧ d.showable = true
  | .none, _, _ => ⟨by simp only [PyData.leavesShort], by simp only [PyData.showable]⟩
  | .bool _, _, _ => ⟨by simp only [PyData.leavesShort], by simp only [PyData.showable]⟩
  | .int i, h, _ => by
    have h1 := int_short h
    refine ⟨?_, ?_⟩
    · simp only [PyData.leavesShort, decide_eq_true_eq]
      have h2 := int_text_length_le (a := i) (k := 900) (by decide) h1
      have e : (PyData.shown (.int i)).length = (toString i).length := by
        simp only [PyData.shown]
        exact ofString_length _
      omega
    · simp only [PyData.showable, decide_eq_true_eq]; omega
  | .str x, _, h => ⟨by simpa only [PyData.leavesShort, txt] using h, by simp only [PyData.showable]⟩
  | .list xs, h, t => by
    have := leavesAll_ok xs (by simpa only [PyData.weight] using h) (by simpa only [txt] using t)
    exact ⟨by simpa only [PyData.leavesShort] using this.1, by simpa only [PyData.showable] using this.2⟩
  | .tuple xs, h, t => by
    have := leavesAll_ok xs (by simpa only [PyData.weight] using h) (by simpa only [txt] using t)
    exact ⟨by simpa only [PyData.leavesShort] using this.1, by simpa only [PyData.showable] using this.2⟩
  | .dict kvs, h, t => by
    have := leavesKv_ok kvs (by simpa only [PyData.weight] using h) (by simpa only [txt] using t)
    exact ⟨by simpa only [PyData.leavesShort] using this.1, by simpa only [PyData.showable] using this.2⟩
theorem leavesAll_ok : ∀ xs : List PyData, PyData.weightAll xs ≤ 900 → txtAll xs = true → PyData.leavesShortAll 1000 xs = true ∧ PyData.showableAll xs = true
  | [], _, _ => ⟨by simp only [PyData.leavesShortAll], by simp only [PyData.showableAll]⟩
  | x :: xs, h, t => by
    simp only [PyData.weightAll] at h
    simp only [txtAll, Bool.and_eq_true] at t
    have h1 := leaves_ok x (by omega) t.1
    have h2 := leavesAll_ok xs (by omega) t.2
    exact ⟨by simp only [PyData.leavesShortAll, h1.1, h2.1, Bool.and_self], by simp only [PyData.showableAll, h1.2, h2.2, Bool.and_self]⟩
theorem leavesKv_ok : ∀ xs : List (PyData × PyData), PyData.weightKv xs ≤ 900 → txtKv xs = true → PyData.leavesShortKv 1000 xs = true ∧ PyData.showableKv xs = true
  | [], _, _ => ⟨by simp only [PyData.leavesShortKv], by simp only [PyData.showableKv]⟩
  | (k, v) :: xs, h, t => by
    simp only [PyData.weightKv] at h
    simp only [txtKv, Bool.and_eq_true] at t
    have h0 := leaves_ok k (by omega) t.1.1
    have h1 := leaves_ok v (by omega) t.1.2
    have h2 := leavesKv_ok xs (by omega) t.2
    exact ⟨by simp only [PyData.leavesShortKv, h0.1, h1.1, h2.1, Bool.and_self], by simp only [PyData.showableKv, h0.2, h1.2, h2.2, Bool.and_self]⟩
end
/-- small enough to be shown -/
structure Tm (d : PyData) : Prop where
  w : d.weight ≤ 900
  dp : d.depth ≤ 50
  tx : txt d = true
theorem Tm.repr {d : PyData} (h : Tm d) : reprL [d] = some (.str d.shown) := by
  have h1 := leaves_ok d h.w h.tx
  have h2 := PyData.shown_le 1000 (by decide) d h1.1
  have h3 := h.w
  have h4 := h.dp
  show (if d.showable = true ∧ d.shown.length ≤ 1000000 ∧ d.depth ≤ 60 then some (PyData.str d.shown) else none) = _
  rw [if_pos ⟨h1.2, by omega, by omega⟩]
end DL
end

section
set_option Elab.async false
set_option linter.all false
set_option maxRecDepth 100000
set_option maxHeartbeats 4000000
/-! DL16: dicts with numbers as keys. -/
namespace DL
open PySem PySem.Spec PyProof.Rows L2
abbrev dd (K : List (Int × PyData)) : List (PyData × PyData) := K.map fun e => (.int e.1, e.2)
abbrev dks (K : List (Int × PyData)) : List (Key × PyData) := K.map fun e => (.inl e.1, e.2)
theorem keyOf_iff (a i : Int) : (keyOf (.int a) = some (.inl i)) ↔ a = i := by
  constructor
  · intro h; cases h; rfl
  · rintro rfl; rfl
theorem any_dd (K : List (Int × PyData)) (i : Int) : ((dd K).any fun kv => decide (keyOf kv.1 = some (.inl i))) = K.any fun e => decide (e.1 = i) := by
  rw [List.any_map]
  congr 1
  funext e
  simp [keyOf_iff]
theorem dput_dd (K : List (Int × PyData)) (i : Int) (v : PyData) : dput (dd K) (.inl i) v = dd (if (K.any fun e => decide (e.1 = i)) = true then K.map fun e => if e.1 = i then (e.1, v) else e else K ++ [(i, v)]) := by
  unfold dput
  rw [any_dd]
  split
  · show (K.map _).map _ = (K.map _).map _
    rw [List.map_map, List.map_map]
    refine List.map_congr_left fun e _ => ?_
    by_cases h : e.1 = i
    · simp [h, keyOf_iff]
    · simp [h, keyOf_iff]
  · simp [keyD]
theorem dput_mem {K : List (Int × PyData)} {i : Int} {v : PyData} : ∃ K', dput (dd K) (.inl i) v = dd K' ∧ K'.length ≤ K.length + 1 ∧ ∀ e ∈ K', ((∃ x ∈ K, e.1 = x.1) ∨ e.1 = i) ∧ ((∃ x ∈ K, e.2 = x.2) ∨ e.2 = v) := by
  rw [dput_dd]
  refine ⟨_, rfl, ?_, fun e he => ?_⟩
  · split <;> simp
  · split at he
    · obtain ⟨x, hx, rfl⟩ := List.mem_map.mp he
      split
      · exact ⟨.inl ⟨x, hx, rfl⟩, .inr rfl⟩
      · exact ⟨.inl ⟨x, hx, rfl⟩, .inl ⟨x, hx, rfl⟩⟩
    · rcases List.mem_append.mp he with h | h
      · exact ⟨.inl ⟨e, h, rfl⟩, .inl ⟨e, h, rfl⟩⟩
      · rw [List.mem_singleton.mp h]; exact ⟨.inr rfl, .inr rfl⟩
theorem dmerge_mem : ∀ (M K : List (Int × PyData)), ∃ K', dmerge (dd K) (dks M) = dd K' ∧ K'.length ≤ K.length + M.length ∧ ∀ e ∈ K', ((∃ x ∈ K, e.1 = x.1) ∨ ∃ x ∈ M, e.1 = x.1) ∧ ((∃ x ∈ K, e.2 = x.2) ∨ ∃ x ∈ M, e.2 = x.2)
  | [], K => ⟨K, rfl, Nat.le_refl _, fun e he => ⟨.inl ⟨e, he, rfl⟩, .inl ⟨e, he, rfl⟩⟩⟩
  | m :: M, K => by
    obtain ⟨K1, e1, l1, h1⟩ := dput_mem (K := K) (i := m.1) (v := m.2)
    obtain ⟨K2, e2, l2, h2⟩ := dmerge_mem M K1
    refine ⟨K2, ?_, by rw [List.length_cons]; omega, fun e he => ⟨?_, ?_⟩⟩
    · show dmerge (dput (dd K) (.inl m.1) m.2) (dks M) = _
      rw [e1, e2]
    · rcases (h2 e he).1 with ⟨x, hx, ex⟩ | ⟨x, hx, ex⟩
      · rcases (h1 x hx).1 with ⟨y, hy, ey⟩ | ey
        · exact .inl ⟨y, hy, ex.trans ey⟩
        · exact .inr ⟨m, List.mem_cons_self, ex.trans ey⟩
      · exact .inr ⟨x, List.mem_cons_of_mem _ hx, ex⟩
    · rcases (h2 e he).2 with ⟨x, hx, ex⟩ | ⟨x, hx, ex⟩
      · rcases (h1 x hx).2 with ⟨y, hy, ey⟩ | ey
        · exact .inl ⟨y, hy, ex.trans ey⟩
        · exact .inr ⟨m, List.mem_cons_self, ex.trans ey⟩
      · exact .inr ⟨x, List.mem_cons_of_mem _ hx, ex⟩
theorem dmerge_fresh : ∀ (M K : List (Int × PyData)), ((K ++ M).map (·.1)).Nodup → dmerge (dd K) (dks M) = dd (K ++ M)
  | [], K, _ => by rw [List.append_nil]; rfl
  | m :: M, K, h => by
    have hn : ¬ (K.any fun e => decide (e.1 = m.1)) = true := fun z => by
      obtain ⟨e, he, e1⟩ := List.any_eq_true.mp z
      rw [List.map_append, List.nodup_append] at h
      exact h.2.2 e.1 (List.mem_map.mpr ⟨e, he, rfl⟩) m.1 (List.mem_map.mpr ⟨m, List.mem_cons_self, rfl⟩) (of_decide_eq_true e1)
    show dmerge (dput (dd K) (.inl m.1) m.2) (dks M) = _
    rw [dput_dd, if_neg hn, dmerge_fresh M (K ++ [(m.1, m.2)]) (by simpa using h)]
    simp
theorem kvOf_dd (K : List (Int × PyData)) : kvOf (dd K) = dks K := by
  unfold kvOf
  rw [List.filterMap_map]
  induction K with
  | nil => rfl
  | cons e K ih =>
    rw [List.filterMap_cons, ih]; rfl
theorem prsOf_pk : ∀ K : List (Int × PyData), prsOf (K.map fun e => .tuple [.int e.1, e.2]) = some (dks K)
  | [] => rfl
  | e :: K => by
    show (prOf (.tuple [.int e.1, e.2])).bind (fun p => (prsOf (K.map fun e => .tuple [.int e.1, e.2])).bind fun ps => some (p :: ps)) = _
    rw [prsOf_pk K]; rfl
theorem dlook_mem {K : List (Int × PyData)} {i : Int} {v : PyData} (h : dlook (dd K) (.inl i) = some v) : ∃ e ∈ K, e.2 = v := by
  unfold dlook at h
  obtain ⟨kv, h1, rfl⟩ := Option.map_eq_some_iff.mp h
  obtain ⟨e, he, rfl⟩ := List.mem_map.mp (List.mem_of_find?_eq_some h1)
  exact ⟨e, he, rfl⟩
theorem sort_filter (ks : List Int) (p : Int → Bool) : (sortI ks).filter p = sortI (ks.filter p) := sortI_uniq ((sortI_perm ks).filter p) ((sortI_le ks).filter p)
end DL
end

section
set_option Elab.async false
set_option linter.all false
set_option maxRecDepth 100000
set_option maxHeartbeats 4000000
/-! DL17: mirrors that draw from the source: what they give from every state. -/
namespace DL
open PySem PySem.Spec PyProof.Rows L2
section
variable {ρ : Ev} {b : Bool} {n i j : Nat} {m ma mb mc : Ev → M PyData} {ms : Ev → M (List PyData)} {m1 m2 : Ev → M Fl} {c ca cb : Ev → M Bool} {ds : List PyData} {d : PyData} {P Q R : PyData → Prop} {Pf Qf : Fl → Prop}
theorem t_fn {m : Ev → M Fl} (h : Tri (m (ev0 b n ds)) fun fl => ∃ d, fl = .rt d ∧ P d) : Tri (fnM b n m ds) P :=
  Tri.bind h fun fl ⟨d, e, p⟩ => by subst e; exact Tri.pure p
theorem t_fnN {m : Ev → M Fl} (h : Tri (m (ev0 b n ds)) fun fl => (∃ d, fl = .rt d ∧ P d) ∨ ∃ ρ', fl = .nx ρ' ∧ P .none) : Tri (fnM b n m ds) P :=
  Tri.bind h fun fl hfl => by
    rcases hfl with ⟨d, e, p⟩ | ⟨ρ', e, p⟩
    · subst e; exact Tri.pure p
    · subst e; exact Tri.pure p
theorem t_seq {I : Ev → Prop} (h1 : Tri (m1 ρ) fun fl => ∃ ρ', fl = .nx ρ' ∧ I ρ') (h2 : ∀ ρ', I ρ' → Tri (m2 ρ') Qf) : Tri (mSeq m1 m2 ρ) Qf :=
  Tri.bind h1 fun fl ⟨ρ', e, p⟩ => by subst e; exact h2 ρ' p
theorem t_seqX {I : Ev → Prop} (h1 : Tri (m1 ρ) fun fl => (∃ ρ', fl = .nx ρ' ∧ I ρ') ∨ ∃ d, fl = .rt d ∧ Qf (.rt d)) (h2 : ∀ ρ', I ρ' → Tri (m2 ρ') Qf) : Tri (mSeq m1 m2 ρ) Qf :=
  Tri.bind h1 fun fl h => by
    rcases h with ⟨ρ', e, p⟩ | ⟨d, e, q⟩
    · subst e; exact h2 ρ' p
    · subst e; exact Tri.pure q
theorem t_if {B : Bool → Prop} (hc : Tri (c ρ) B) (h1 : B true → Tri (m1 ρ) Qf) (h2 : B false → Tri (m2 ρ) Qf) : Tri (mIfS c m1 m2 ρ) Qf :=
  Tri.bind hc fun b h => by
    cases b with
    | true => exact h1 h
    | false => exact h2 h
theorem t_ifE {B : Bool → Prop} (hc : Tri (c ρ) B) (h1 : B true → Tri (ma ρ) Q) (h2 : B false → Tri (mb ρ) Q) : Tri (mIfE c ma mb ρ) Q :=
  Tri.bind hc fun b h => by
    cases b with
    | true => exact h1 h
    | false => exact h2 h
theorem t_pass (h : Qf (.nx ρ)) : Tri (mPass ρ) Qf := Tri.pure h
theorem t_ret (h : Tri (m ρ) fun d => Qf (.rt d)) : Tri (mRet m ρ) Qf := Tri.bind h fun d p => Tri.pure p
theorem t_set (h : Tri (m ρ) fun d => Qf (.nx (ρ.set i (.vl d)))) : Tri (mSet i m ρ) Qf := Tri.bind h fun d p => Tri.pure p
theorem t_setF (h : Tri (ms ρ) fun d => Qf (.nx (ρ.set i (.ol d)))) : Tri (mSetF i ms ρ) Qf := Tri.bind h fun d p => Tri.pure p
theorem t_setD {ms : Ev → M (List (PyData × PyData))} (h : Tri (ms ρ) fun d => Qf (.nx (ρ.set i (.od d)))) : Tri (mSetD i ms ρ) Qf := Tri.bind h fun d p => Tri.pure p
theorem t_op {α : Type} {φ : PyData → PyData → Option α} {R : α → Prop} (ha : Tri (ma ρ) P) (hb : Tri (mb ρ) Q) (h : ∀ x y, P x → Q y → ∃ z, φ x y = some z ∧ R z) : Tri (mOp φ ma mb ρ) R :=
  Tri.bind ha fun x px => Tri.bind hb fun y qy => let ⟨_, e, r⟩ := h x y px qy; Tri.lft e r
theorem t_un {φ : PyData → Option PyData} (ha : Tri (ma ρ) P) (h : ∀ x, P x → ∃ z, φ x = some z ∧ R z) : Tri (mUn φ ma ρ) R :=
  Tri.bind ha fun x px => let ⟨_, e, r⟩ := h x px; Tri.lft e r
theorem t_un' {α : Type} {φ : PyData → Option α} {R : α → Prop} (ha : Tri (ma ρ) P) (h : ∀ x, P x → ∃ z, φ x = some z ∧ R z) : Tri (mUn' φ ma ρ) R :=
  Tri.bind ha fun x px => let ⟨_, e, r⟩ := h x px; Tri.lft e r
theorem t_cl {α : Type} {φ : List PyData → Option α} {P : List PyData → Prop} {R : α → Prop} (ha : Tri (ms ρ) P) (h : ∀ x, P x → ∃ z, φ x = some z ∧ R z) : Tri (mCl φ ms ρ) R :=
  Tri.bind ha fun x px => let ⟨_, e, r⟩ := h x px; Tri.lft e r
theorem t_rng {φ : List PyData → Option (List PyData)} {P : List PyData → Prop} {R : List PyData → Prop} (ha : Tri (ms ρ) P) (h : ∀ x, P x → ∃ z, φ x = some z ∧ R z) : Tri (mRng φ ms ρ) R :=
  Tri.bind ha fun x px => let ⟨_, e, r⟩ := h x px; Tri.lft e r
theorem t_nil {P : List PyData → Prop} (h : P []) : Tri (mNil ρ) P := Tri.pure h
theorem t_cons {P : List PyData → Prop} (ha : Tri (m ρ) fun d => Tri (ms ρ) fun r => P (d :: r)) : Tri (mCons m ms ρ) P :=
  Tri.bind ha fun x px => Tri.bind px fun y qy => Tri.pure qy
theorem t_name (e : ρ[i]? = some (.vl d)) (h : P d) : Tri (mName i ρ) P := Tri.lft (by rw [e]; rfl) h
theorem t_c (h : P d) : Tri (mC d ρ) P := Tri.pure h
theorem t_frz (h : Tri (ms ρ) fun xs => P (.list xs)) : Tri (mFrz ms ρ) P := Tri.bind h fun x px => Tri.pure px
theorem t_tup (h : Tri (ms ρ) fun xs => xs.length ≤ 1000000 ∧ P (.tuple xs)) : Tri (mTup ms ρ) P := Tri.bind h fun x px => Tri.bind (Tri.lft (P := (· = x)) (show sz x = some x from if_pos px.1) rfl) fun y e => by subst e; exact Tri.pure px.2
theorem t_lst {P : List PyData → Prop} (h : Tri (ms ρ) fun xs => xs.length ≤ 1000000 ∧ P xs) : Tri (mLst ms ρ) P := Tri.bind h fun x px => Tri.lft (show sz x = some x from if_pos px.1) px.2
theorem t_asB {B : Bool → Prop} (h : Tri (m ρ) fun d => ∃ b, d = .bool b ∧ B b) : Tri (mAsB m ρ) B := Tri.bind h fun x ⟨b, e, p⟩ => by subst e; exact Tri.lft rfl p
theorem t_not {B : Bool → Prop} (h : Tri (c ρ) fun b => B (!b)) : Tri (mNotT c ρ) B := Tri.bind h fun x p => Tri.pure p
theorem t_and {A B : Bool → Prop} (h : Tri (ca ρ) A) (h1 : A true → Tri (cb ρ) B) (h2 : A false → B false) : Tri (mAndT ca cb ρ) B := Tri.bind h fun x p => by
  cases x with
  | true => exact h1 p
  | false => exact Tri.pure (h2 p)
theorem t_or {A B : Bool → Prop} (h : Tri (ca ρ) A) (h1 : A true → B true) (h2 : A false → Tri (cb ρ) B) : Tri (mOrT ca cb ρ) B := Tri.bind h fun x p => by
  cases x with
  | true => exact Tri.pure (h1 p)
  | false => exact h2 p
theorem t_call {mf : List PyData → M PyData} (h : Tri (ms ρ) fun ds => ds.length = n ∧ Tri (mf ds) Q) : Tri (mCall n mf ms ρ) Q := Tri.bind h fun x p => Tri.bind (Tri.lft (P := (· = x)) (show lenI n x = some x from if_pos p.1) rfl) fun y e => by subst e; exact p.2
theorem t_callS {mf : List PyData → M PyData} (hs : ρ[i]? = some .src) (h : Tri (ms ρ) fun ds => ds.length = n ∧ Tri (mf ds) Q) : Tri (mCallS n i mf ms ρ) Q :=
  Tri.bind (Tri.lft (P := fun _ => True) (show srcAt ρ i = some () by unfold srcAt; rw [hs]) trivial) fun _ _ => Tri.bind h fun x p => Tri.bind (Tri.lft (P := (· = x)) (show lenI n x = some x from if_pos p.1) rfl) fun y e => by subst e; exact p.2
theorem t_forM {f : PyData → Ev → M Fl} {I : Ev → Prop} : ∀ (ds : List PyData) {ρ : Ev}, I ρ → (∀ d ∈ ds, ∀ ρ, I ρ → Tri (f d ρ) fun fl => ∃ ρ', fl = .nx ρ' ∧ I ρ') → Tri (forM ds f ρ) fun fl => ∃ ρ', fl = .nx ρ' ∧ I ρ'
  | [], ρ, h, _ => Tri.pure ⟨ρ, rfl, h⟩
  | d :: ds, ρ, h, hf => Tri.bind (hf d List.mem_cons_self ρ h) fun fl ⟨ρ', e, p⟩ => by
    subst e
    exact t_forM ds p fun x hx => hf x (List.mem_cons_of_mem _ hx)
theorem t_for {mi : Ev → M (List PyData)} {g : PyData → Ev → M Ev} {mb : Ev → M Fl} {I : Ev → Prop} {P : List PyData → Prop} (hi : Tri (mi ρ) P) (h0 : I ρ) (hf : ∀ ds, P ds → ∀ d ∈ ds, ∀ ρ, I ρ → Tri (g d ρ) fun ρ1 => Tri (mb ρ1) fun fl => ∃ ρ', fl = .nx ρ' ∧ I ρ') (hq : ∀ ρ', I ρ' → Qf (.nx ρ')) : Tri (mFor mi g mb ρ) Qf :=
  Tri.bind hi fun ds p => (t_forM ds h0 fun d hd ρ h => Tri.bind (hf ds p d hd ρ h) fun ρ1 h1 => h1).mono fun fl ⟨ρ', e, h⟩ => by subst e; exact hq ρ' h
theorem t_lcM {f : PyData → M (Option PyData)} {P : PyData → Prop} : ∀ (ds : List PyData), (∀ d ∈ ds, Tri (f d) fun o => ∃ x, o = some x ∧ P x) → Tri (lcM ds f) fun xs => xs.length = ds.length ∧ ∀ x ∈ xs, P x
  | [], _ => Tri.pure ⟨rfl, fun x h => nomatch h⟩
  | d :: ds, hf => Tri.bind (hf d List.mem_cons_self) fun o ⟨x, e, p⟩ => by
    subst e
    refine Tri.bind (t_lcM ds fun x hx => hf x (List.mem_cons_of_mem _ hx)) fun xs ⟨hl, hx⟩ => Tri.pure ⟨by rw [List.length_cons, List.length_cons, hl], fun y hy => ?_⟩
    rcases List.mem_cons.mp hy with rfl | hy
    · exact p
    · exact hx y hy
end
/-! ### the pick -/
def pickC : Ev → M Bool := mAndT (mAsB (mOp ltD (mSrcGet 0 "left") (mC (.int 2)))) (mAsB (mOp gtD (mLenC 2) (mC (.int 0))))
def pickB : Ev → M Fl := mSrcPut 0 "left" (mPopC 2)
theorem t_getL {ρ : Ev} {i : Nat} {P : PyData → Prop} (hs : ρ[i]? = some .src) (h : ∀ z : Int, 0 ≤ z → P (.int z)) : Tri (mSrcGet i "left" ρ) P := fun st ok => by
  have e : srcAt ρ i = some () := by unfold srcAt; rw [hs]
  refine ⟨.int st.left, st, ?_, ok, h _ ok.left⟩
  unfold mSrcGet
  rw [e]; rfl
theorem t_getX {ρ : Ev} {i : Nat} {P : PyData → Prop} {k : Str} (hs : ρ[i]? = some .src) (hk : k = "mixed" ∨ k = "turn") (h : ∀ z : Int, P (.int z)) : Tri (mSrcGet i k ρ) P := fun st ok => by
  have e : srcAt ρ i = some () := by unfold srcAt; rw [hs]
  rcases hk with rfl | rfl
  · refine ⟨.int st.mixed, st, ?_, ok, h _⟩
    unfold mSrcGet
    rw [e]; rfl
  · refine ⟨.int st.turn, st, ?_, ok, h _⟩
    unfold mSrcGet
    rw [e]; rfl
theorem t_putL {ρ : Ev} {i : Nat} {m : Ev → M PyData} {Qf : Fl → Prop} (hs : ρ[i]? = some .src) (h : Tri (m ρ) fun d => ∃ z : Int, d = .int z ∧ 0 ≤ z) (q : Qf (.nx ρ)) : Tri (mSrcPut i "left" m ρ) Qf := fun st ok => by
  have e : srcAt ρ i = some () := by unfold srcAt; rw [hs]
  obtain ⟨d, st1, e1, ok1, z, rfl, hz⟩ := h st ok
  refine ⟨.nx ρ, { st1 with left := z }, ?_, ⟨ok1.cells, ok1.len, hz⟩, q⟩
  have e2 : srcPut "left" z st1 = some { st1 with left := z } := by
    unfold srcPut
    rw [if_pos rfl, if_pos hz]
  unfold mSrcPut
  rw [e]
  show (m ρ st).bind _ = _
  rw [e1]
  show ((lft (srcPut "left" z st1) : M Pk) st1).bind _ = _
  rw [e2]; rfl
theorem t_putT {ρ : Ev} {i : Nat} {m : Ev → M PyData} {Qf : Fl → Prop} (hs : ρ[i]? = some .src) (h : Tri (m ρ) fun d => ∃ z : Int, d = .int z) (q : Qf (.nx ρ)) : Tri (mSrcPut i "turn" m ρ) Qf := fun st ok => by
  have e : srcAt ρ i = some () := by unfold srcAt; rw [hs]
  obtain ⟨d, st1, e1, ok1, z, rfl⟩ := h st ok
  refine ⟨.nx ρ, { st1 with turn := z }, ?_, ⟨ok1.cells, ok1.len, ok1.left⟩, q⟩
  have e2 : srcPut "turn" z st1 = some { st1 with turn := z } := rfl
  unfold mSrcPut
  rw [e]
  show (m ρ st).bind _ = _
  rw [e1]
  rfl
theorem drain_ok {ρ : Ev} (h0 : ρ[0]? = some .src) (h2 : ρ[2]? = some .scl) : ∀ (n : Nat) (st : Pk), st.ok → st.cells.length < n → ∃ st', whileM n pickC pickB ρ st = some (.nx ρ, st') ∧ st'.ok
  | 0, _, _, h => absurd h (Nat.not_lt_zero _)
  | n + 1, st, ok, hl => by
    have e0 : srcAt ρ 0 = some () := by unfold srcAt; rw [h0]
    have e2 : sclAt ρ 2 = some () := by unfold sclAt; rw [h2]
    have c1 : pickC ρ st = some (decide (st.left < 2) && decide (0 < (st.cells.length : Int)), st) := by
      unfold pickC mAndT
      have a1 : mAsB (mOp ltD (mSrcGet 0 "left") (mC (.int 2))) ρ st = some (decide (st.left < 2), st) := by
        unfold mAsB mOp mSrcGet
        rw [e0]; rfl
      have a2 : mAsB (mOp gtD (mLenC 2) (mC (.int 0))) ρ st = some (decide (0 < (st.cells.length : Int)), st) := by
        unfold mAsB mOp mLenC
        rw [e2]; rfl
      show (mAsB (mOp ltD (mSrcGet 0 "left") (mC (.int 2))) ρ st).bind _ = _
      rw [a1]
      by_cases h : st.left < 2
      · rw [decide_eq_true h]; exact a2
      · rw [decide_eq_false h]; rfl
    unfold whileM
    show ∃ st', (pickC ρ st).bind _ = _ ∧ _
    rw [c1]
    by_cases hc : (decide (st.left < 2) && decide (0 < (st.cells.length : Int))) = true
    · have hne : st.cells ≠ [] := by
        intro z
        rw [z] at hc
        simp at hc
      obtain ⟨c, hcl⟩ : ∃ c, st.cells.getLast? = some c := ⟨_, List.getLast?_eq_some_getLast hne⟩
      have hc0 : 0 ≤ c := ok.cells c (List.mem_of_getLast? hcl)
      have b1 : pickB ρ st = some (.nx ρ, { st with cells := st.cells.dropLast, left := c }) := by
        have p1 : mPopC 2 ρ st = some (.int c, { st with cells := st.cells.dropLast }) := by
          unfold mPopC
          rw [e2]
          show ((popS : M Int) st).bind _ = _
          rw [show (popS : M Int) st = some (c, { st with cells := st.cells.dropLast }) by show popD st = _; unfold popD; rw [hcl]]
          rfl
        unfold pickB mSrcPut
        rw [e0]
        show (mPopC 2 ρ st).bind _ = _
        rw [p1]
        show ((lft (srcPut "left" c { st with cells := st.cells.dropLast }) : M Pk) _).bind _ = _
        rw [show srcPut "left" c { st with cells := st.cells.dropLast } = some { st with cells := st.cells.dropLast, left := c } by unfold srcPut; rw [if_pos rfl, if_pos hc0]]
        rfl
      have ok' : ({ st with cells := st.cells.dropLast, left := c } : Pk).ok := ⟨fun z hz => ok.cells z (List.dropLast_subset _ hz), by show st.cells.dropLast.length ≤ 63; rw [List.length_dropLast]; have := ok.len; omega, hc0⟩
      obtain ⟨st2, e3, ok2⟩ := drain_ok h0 h2 n { st with cells := st.cells.dropLast, left := c } ok' (by
        show st.cells.dropLast.length < n
        rw [List.length_dropLast]
        have := List.length_pos_iff.mpr hne
        omega)
      refine ⟨st2, ?_, ok2⟩
      simp only [Option.bind_some, hc, if_true]
      show (pickB ρ st).bind _ = _
      rw [b1]
      exact e3
    · refine ⟨st, ?_, ok⟩
      simp only [Option.bind_some, hc]
      rfl
end DL
end

section
set_option Elab.async false
set_option linter.all false
set_option maxRecDepth 100000
set_option maxHeartbeats 4000000
/-! printed by gen.py -/
namespace K32
open PySem PySem.Spec PyProof.Rows L2 DL
def top (i : Nat) : Stmt := PySem.Challenge.pw_dicevalues_k32_polynomials_judged.main.body.getD i (.Pass ⟨0, 0, 0, 0⟩)
abbrev s_is_integer : Stmt := top 2
abbrev s_is_fraction : Stmt := top 3
abbrev s_is_poly : Stmt := top 6
abbrev s_judge_poly : Stmt := top 8
abbrev s_law_open_cells : Stmt := top 10
abbrev s_law_pick : Stmt := top 11
abbrev s_law_of : Stmt := top 12
abbrev s_law_fraction : Stmt := top 13
abbrev s_law_drawn_fraction : Stmt := top 14
abbrev s_law_poly : Stmt := top 15
abbrev s_law_bent : Stmt := top 16
abbrev s_law_is_int : Stmt := top 17
abbrev s_law_is_fraction : Stmt := top 18
abbrev s_law_is_poly : Stmt := top 19
abbrev s_law_fault : Stmt := top 20
abbrev s_law : Stmt := top 21
def c_ZERO : PyData := .tuple [.int 0, .int 1]
structure Txt (K : PySem.W.Frag) (mg : Str → Option Value) : Prop where
  n_abs : mg "abs" = none
  n_all : mg "all" = none
  n_bool : mg "bool" = none
  n_dict : mg "dict" = none
  n_int : mg "int" = none
  n_isinstance : mg "isinstance" = none
  n_len : mg "len" = none
  n_list : mg "list" = none
  n_range : mg "range" = none
  n_repr : mg "repr" = none
  n_sorted : mg "sorted" = none
  n_tuple : mg "tuple" = none
  n_zip : mg "zip" = none
  i_gcd : mg "gcd" = some (.builtin "math.gcd")
  w_ZERO : ∃ v, mg "ZERO" = some v ∧ ∃ u, RelV u v ∧ ∀ F, Rp K F u c_ZERO
def m_is_integer : Ev → M Fl :=
  mRet (mAndV (mIsi "int" (mName 0)) (mNotV (mIsi "bool" (mName 0))))
def mf_is_integer : List PyData → M PyData := fnM false 1 m_is_integer
theorem sc_is_integer : FnScope ["value"] ["value"] (defScope s_is_integer) := ⟨rfl, rfl, rfl, by decide +kernel, rfl, by decide +kernel, by decide +kernel⟩
theorem w_is_integer {P : Program} {w : World} {K : PySem.W.Frag} {mg : Str → Option Value} {base : Heap} {k : Nat} {f : Addr} {fd : FuncData} (F : Fun K "is_integer" "is_integer" s_is_integer f fd) (T : Txt K mg) : FnM P w K mg base (k + 1) f fd ["value"] false (fnM false 1 (m_is_integer)) :=
  fnM_of F sc_is_integer fun cdv A outer s H G =>
    (sss_one (ss_ret (se_and (se_isi T.n_isinstance (SE.toB (se_name 0)) T.n_int) (se_one (se_not (se_isi T.n_isinstance (SE.toB (se_name 0)) T.n_bool))))))
def m_is_fraction : Ev → M Fl :=
  mSeq (mIfS (mOrT (mNotT (mAsB (mIsi "tuple" (mName 0)))) (mOrT (mAsB (mOp neD (mCl lenD (mCons (mName 0) (mNil))) (mC (.int 2)))) (mNotT (mAsB (mCl allD (mCons (mFrz (mLc (mSeqI (mName 0)) (gSet 1) (mYes) (mCall 1 mf_is_integer (mCons (mName 1) (mNil))) [1])) (mNil))))))) (mRet (mC (.bool false))) (mPass)) (mRet (mAndV (mOp gtD (mOp ixD (mName 0) (mC (.int 1))) (mC (.int 0))) (mOp eqD (mCl gcdD (mCons (mOp ixD (mName 0) (mC (.int 0))) (mCons (mOp ixD (mName 0) (mC (.int 1))) (mNil)))) (mC (.int 1)))))
def mf_is_fraction : List PyData → M PyData := fnM false 2 m_is_fraction
theorem sc_is_fraction : FnScope ["value", "x"] ["value"] (defScope s_is_fraction) := ⟨rfl, rfl, rfl, by decide +kernel, rfl, by decide +kernel, by decide +kernel⟩
theorem w_is_fraction {P : Program} {w : World} {K : PySem.W.Frag} {mg : Str → Option Value} {base : Heap} {k : Nat} {f : Addr} {fd : FuncData} (F : Fun K "is_fraction" "is_fraction" s_is_fraction f fd) (T : Txt K mg) (D_is_integer : Def P w K mg base k "is_integer" ["value"] false mf_is_integer) : FnM P w K mg base (k + 1) f fd ["value"] false (fnM false 2 (m_is_fraction)) :=
  fnM_of F sc_is_fraction fun cdv A outer s H G =>
    (sss_cons (ss_if (SW.t (sw_or (st_not (st_val (se_isi T.n_isinstance (SE.toB (se_name 0)) T.n_tuple))) (sw_or (st_cmp (opd_ne G.u) (SE.toB (se_callB cd_len T.n_len (sab_cons (SE.toB (se_name 0)) sab_nil))) (SE.toB se_int)) (sw_or1 (st_not (st_val (se_callB (cd_all G.calm) T.n_all (sab_cons (SF.toB (sf_lc (w := false) (own := [("x", 1)]) G.calm G.nd (sj_seq (SE.toB (se_name 0))) (blk_c ["value", "x"] (defScope s_is_fraction) rfl (by decide +kernel) (by decide +kernel) (by decide +kernel) (by decide +kernel)) (fun _ _ _ _ _ => (sg_name (G.blk).nd)) (fun _ _ _ _ _ => sts_nil) (fun _ _ _ _ _ => (se_callD (G.blk) D_is_integer (sa_cons (se_name 1) sa_nil))))) sab_nil)))))))) (sss_one (ss_ret se_bl)) sss_nil)
    (sss_one (ss_ret (se_and (se_cmp opd_gt (SE.toB (se_ix (SE.toB (se_name 0)) (SE.toB se_int))) (SE.toB se_int)) (se_one (se_cmp (opd_eq G.u) (SE.toB (se_callG cd_gcd T.i_gcd (sab_cons (SE.toB (se_ix (SE.toB (se_name 0)) (SE.toB se_int))) (sab_cons (SE.toB (se_ix (SE.toB (se_name 0)) (SE.toB se_int))) sab_nil)))) (SE.toB se_int)))))))
def m_is_poly : Ev → M Fl :=
  mSeq (mIfS (mOrT (mNotT (mAsB (mIsi "tuple" (mName 0)))) (mNotT (mAsB (mCl allD (mCons (mFrz (mLc (mSeqI (mName 0)) (gSet 1) (mYes) (mAndV (mIsi "tuple" (mName 1)) (mOp eqD (mCl lenD (mCons (mName 1) (mNil))) (mC (.int 2)))) [1])) (mNil)))))) (mRet (mC (.bool false))) (mPass)) (mSeq (mIfS (mNotT (mAsB (mCl allD (mCons (mFrz (mLc (mSeqI (mName 0)) (gTupD 2 (gsCons (gSet 2) (gsCons (gSet 3) (gsNil)))) (mYes) (mAndV (mCall 1 mf_is_integer (mCons (mName 2) (mNil))) (mAndV (mCall 1 mf_is_fraction (mCons (mName 3) (mNil))) (mOp neD (mName 3) (mC c_ZERO)))) [2, 3])) (mNil))))) (mRet (mC (.bool false))) (mPass)) (mRet (mCl allD (mCons (mFrz (mLc (mCl zipD (mCons (mName 0) (mCons (mCut cutD (mName 0) (mP (mC (.int 1))) (mNoP)) (mNil)))) (gTupD 2 (gsCons (gSet 4) (gsCons (gSet 5) (gsNil)))) (mYes) (mOp ltD (mOp ixD (mName 4) (mC (.int 0))) (mOp ixD (mName 5) (mC (.int 0)))) [4, 5])) (mNil)))))
def mf_is_poly : List PyData → M PyData := fnM false 6 m_is_poly
theorem sc_is_poly : FnScope ["value", "pair", "i", "c", "one", "late"] ["value"] (defScope s_is_poly) := ⟨rfl, rfl, rfl, by decide +kernel, rfl, by decide +kernel, by decide +kernel⟩
theorem w_is_poly {P : Program} {w : World} {K : PySem.W.Frag} {mg : Str → Option Value} {base : Heap} {k : Nat} {f : Addr} {fd : FuncData} (F : Fun K "is_poly" "is_poly" s_is_poly f fd) (T : Txt K mg) (D_is_fraction : Def P w K mg base k "is_fraction" ["value"] false mf_is_fraction) (D_is_integer : Def P w K mg base k "is_integer" ["value"] false mf_is_integer) : FnM P w K mg base (k + 1) f fd ["value"] false (fnM false 6 (m_is_poly)) :=
  fnM_of F sc_is_poly fun cdv A outer s H G =>
    (sss_cons (ss_if (SW.t (sw_or (st_not (st_val (se_isi T.n_isinstance (SE.toB (se_name 0)) T.n_tuple))) (sw_or1 (st_not (st_val (se_callB (cd_all G.calm) T.n_all (sab_cons (SF.toB (sf_lc (w := false) (own := [("pair", 1)]) G.calm G.nd (sj_seq (SE.toB (se_name 0))) (blk_c ["value", "pair", "i", "c", "one", "late"] (defScope s_is_poly) rfl (by decide +kernel) (by decide +kernel) (by decide +kernel) (by decide +kernel)) (fun _ _ _ _ _ => (sg_name (G.blk).nd)) (fun _ _ _ _ _ => sts_nil) (fun _ _ _ _ _ => (se_and (se_isi T.n_isinstance (SE.toB (se_name 1)) T.n_tuple) (se_one (se_cmp (opd_eq (G.blk).u) (SE.toB (se_callB cd_len T.n_len (sab_cons (SE.toB (se_name 1)) sab_nil))) (SE.toB se_int))))))) sab_nil))))))) (sss_one (ss_ret se_bl)) sss_nil)
    (sss_cons (ss_if (st_not (st_val (se_callB (cd_all G.calm) T.n_all (sab_cons (SF.toB (sf_lc (w := false) (own := [("i", 2), ("c", 3)]) G.calm G.nd (sj_seq (SE.toB (se_name 0))) (blk_c ["value", "pair", "i", "c", "one", "late"] (defScope s_is_poly) rfl (by decide +kernel) (by decide +kernel) (by decide +kernel) (by decide +kernel)) (fun _ _ _ _ _ => (sg_tup (G.blk).calm (sgs_cons (sg_name (G.blk).nd) (sgs_cons (sg_name (G.blk).nd) sgs_nil)))) (fun _ _ _ _ _ => sts_nil) (fun _ _ _ _ _ => (se_and (se_callD (G.blk) D_is_integer (sa_cons (se_name 2) sa_nil)) (se_and (se_callD (G.blk) D_is_fraction (sa_cons (se_name 3) sa_nil)) (se_one (se_cmp (opd_ne (G.blk).u) (SE.toB (se_name 3)) (SE.toB (let ⟨_, h1, h2⟩ := T.w_ZERO; se_globD h1 h2))))))))) sab_nil)))) (sss_one (ss_ret se_bl)) sss_nil)
    (sss_one (ss_ret (se_callB (cd_all G.calm) T.n_all (sab_cons (SF.toB (sf_lc (w := true) (own := [("one", 4), ("late", 5)]) G.calm G.nd (SI.toJ (si_zip T.n_zip (sa_cons (se_name 0) (sa_cons (se_cut (SE.toB (se_name 0)) (sp_some se_int) sp_none) sa_nil)))) (blk_c ["value", "pair", "i", "c", "one", "late"] (defScope s_is_poly) rfl (by decide +kernel) (by decide +kernel) (by decide +kernel) (by decide +kernel)) (fun _ _ _ _ _ => (sg_tup (G.blk).calm (sgs_cons (sg_name (G.blk).nd) (sgs_cons (sg_name (G.blk).nd) sgs_nil)))) (fun _ _ _ _ _ => sts_nil) (fun _ _ _ _ _ => (se_cmp opd_lt (SE.toB (se_ix (SE.toB (se_name 4)) (SE.toB se_int))) (SE.toB (se_ix (SE.toB (se_name 5)) (SE.toB se_int))))))) sab_nil))))))
def m_judge_poly : Ev → M Fl :=
  mSeq (mIfS (mNotT (mAsB (mCall 1 mf_is_poly (mCons (mName 1) (mNil))))) (mRet (mTup (mCons (mC (.str "form")) (mNil)))) (mPass)) (mSeq (mAsg (gTupD 2 (gsCons (gSet 2) (gsCons (gSet 3) (gsNil)))) (mTup (mCons (mFrzD (mCl dictL (mCons (mName 1) (mNil)))) (mCons (mFrzD (mCl dictL (mCons (mName 0) (mNil)))) (mNil))))) (mSeq (mSet 4 (mFrz (mCl sortedIL (mCons (mFrz (mLc (mKeys (mFrzD (mOp mrgD (mName 2) (mName 3)))) (gSet 5) (mAsB (mOp neD (mOp3 dget2D (mName 2) (mName 5) (mC c_ZERO)) (mOp3 dget2D (mName 3) (mName 5) (mC c_ZERO)))) (mName 5) [5])) (mNil))))) (mRet (mIfE (mAsB (mOp neD (mName 4) (mFrz (mLst (mNil))))) (mTup (mCons (mC (.str "power")) (mCons (mOp ixD (mName 4) (mC (.int 0))) (mCons (mOp3 dget2D (mName 3) (mOp ixD (mName 4) (mC (.int 0))) (mC c_ZERO)) (mNil))))) (mC .none)))))
def mf_judge_poly : List PyData → M PyData := fnM false 6 m_judge_poly
theorem sc_judge_poly : FnScope ["due", "value", "given", "known", "wrong", "i"] ["due", "value"] (defScope s_judge_poly) := ⟨rfl, rfl, rfl, by decide +kernel, rfl, by decide +kernel, by decide +kernel⟩
theorem w_judge_poly {P : Program} {w : World} {K : PySem.W.Frag} {mg : Str → Option Value} {base : Heap} {k : Nat} {f : Addr} {fd : FuncData} (F : Fun K "judge_poly" "judge_poly" s_judge_poly f fd) (T : Txt K mg) (D_is_poly : Def P w K mg base k "is_poly" ["value"] false mf_is_poly) : FnM P w K mg base (k + 1) f fd ["due", "value"] false (fnM false 6 (m_judge_poly)) :=
  fnM_of F sc_judge_poly fun cdv A outer s H G =>
    (sss_cons (ss_if (st_not (st_val (se_callD G D_is_poly (sa_cons (se_name 1) sa_nil)))) (sss_one (ss_ret (se_tup (sa_cons se_str sa_nil)))) sss_nil)
    (sss_cons (ss_asg (ws := [2, 3]) (se_tup (sa_cons (SD.toE (sd_callT (cdd_dict G.calm) T.n_dict (sab_cons (SE.toB (se_name 1)) sab_nil))) (sa_cons (SD.toE (sd_callT (cdd_dict G.calm) T.n_dict (sab_cons (SE.toB (se_name 0)) sab_nil))) sa_nil))) (sg_tup G.calm (sgs_cons (sg_name G.nd) (sgs_cons (sg_name G.nd) sgs_nil))))
    (sss_cons (ss_set G.nd (SF.toE (sf_callB cf_sortedI T.n_sorted (sab_cons (SF.toB (sf_lc (w := false) (own := [("i", 5)]) G.calm G.nd (SI.toJ (si_keys (SD.toE (sd_star2 (se_name 2) (se_name 3))))) (blk_c ["due", "value", "given", "known", "wrong", "i"] (defScope s_judge_poly) rfl (by decide +kernel) (by decide +kernel) (by decide +kernel) (by decide +kernel)) (fun _ _ _ _ _ => (sg_name (G.blk).nd)) (fun _ _ _ _ _ => (sts_one (st_cmp (opd_ne (G.blk).u) (SE.toB (se_dget2 (G.blk).u1 (SE.toB (se_name 2)) (SE.toB (se_name 5)) (let ⟨_, h1, h2⟩ := T.w_ZERO; se_globD h1 h2))) (SE.toB (se_dget2 (G.blk).u1 (SE.toB (se_name 3)) (SE.toB (se_name 5)) (let ⟨_, h1, h2⟩ := T.w_ZERO; se_globD h1 h2)))))) (fun _ _ _ _ _ => (se_name 5)))) sab_nil))))
    (sss_one (ss_ret (se_if (st_cmp (opd_ne G.u) (SE.toB (se_name 4)) (SF.toB (sf_lst sa_nil))) (se_tup (sa_cons se_str (sa_cons (se_ix (SE.toB (se_name 4)) (SE.toB se_int)) (sa_cons (se_dget2 G.u1 (SE.toB (se_name 3)) (SE.toB (se_ix (SE.toB (se_name 4)) (SE.toB se_int))) (let ⟨_, h1, h2⟩ := T.w_ZERO; se_globD h1 h2)) sa_nil)))) se_non))))))
def m_law_pick : Ev → M Fl :=
  mSeq (mIfS (mAsB (mOp ltD (mName 1) (mC (.int 2)))) (mRet (mC (.int 0))) (mPass)) (mSeq (mSrcCells 0 2) (mSeq (whileM 66 (mAndT (mAsB (mOp ltD (mSrcGet 0 "left") (mC (.int 2)))) (mAsB (mOp gtD (mLenC 2) (mC (.int 0))))) (mSrcPut 0 "left" (mPopC 2))) (mSeq (mSet 3 (mSrcGet 0 "left")) (mSeq (mIfS (mAsB (mOp gtD (mName 3) (mC (.int 1)))) (mSeq (mSrcPut 0 "left" (mOp fdivD (mName 3) (mName 1))) (mRet (mOp modD (mCl intD (mCons (mName 3) (mNil))) (mName 1)))) (mPass)) (mSeq (mSrcPut 0 "turn" (mOp addD (mSrcGet 0 "turn") (mC (.int 1)))) (mSeq (mSet 4 (mSrcGet 0 "turn")) (mSeq (mSet 5 (mOp modD (mCl intD (mCons (mOp addD (mSrcGet 0 "mixed") (mOp mulD (mName 4) (mC (.int 104729)))) (mNil))) (mC (.int 998244353)))) (mSeq (mSet 5 (mOp modD (mCl intD (mCons (mOp addD (mOp mulD (mName 5) (mName 5)) (mOp mulD (mName 4) (mC (.int 17)))) (mNil))) (mC (.int 2147483647)))) (mRet (mOp modD (mCl intD (mCons (mOp fdivD (mName 5) (mC (.int 16))) (mNil))) (mName 1)))))))))))
def mf_law_pick : List PyData → M PyData := fnM true 6 m_law_pick
theorem sc_law_pick : FnScope ["source", "most", "cells", "others", "lap", "stirred"] ["source", "most"] (defScope s_law_pick) := ⟨rfl, rfl, rfl, by decide +kernel, rfl, by decide +kernel, by decide +kernel⟩
theorem w_law_pick {P : Program} {w : World} {K : PySem.W.Frag} {mg : Str → Option Value} {base : Heap} {k : Nat} {f : Addr} {fd : FuncData} (F : Fun K "_law_pick" "_law_pick" s_law_pick f fd) (T : Txt K mg) : FnM P w K mg base (k + 1) f fd ["source", "most"] true (fnM true 6 (m_law_pick)) :=
  fnM_of F sc_law_pick fun cdv A outer s H G =>
    (sss_cons (ss_if (st_cmp opd_lt (SE.toB (se_name 1)) (SE.toB se_int)) (sss_one (ss_ret se_int)) sss_nil)
    (sss_cons (ss_srcCells G.u1 G.nd (pv 0))
    (sss_cons (ss_while 66 PassesOwn.never (SW.t (sw_and (st_cmp opd_lt (SE.toB (se_srcGet G.u1 (pv 0))) (SE.toB se_int)) (sw_and1 (st_cmp opd_gt (SE.toB (se_lenC T.n_len (pv 2))) (SE.toB se_int))))) (sss_one (ss_srcPut G.u1 (pv 0) (se_popC (pv 2)))))
    (sss_cons (ss_set G.nd (se_srcGet G.u1 (pv 0)))
    (sss_cons (ss_if (st_cmp opd_gt (SE.toB (se_name 3)) (SE.toB se_int)) (sss_cons (ss_srcPut G.u1 (pv 0) (se_op opd_fdiv (SE.toB (se_name 3)) (SE.toB (se_name 1))))
    (sss_one (ss_ret (se_op opd_mod (SE.toB (se_callT cd_int T.n_int (sab_cons (SE.toB (se_name 3)) sab_nil))) (SE.toB (se_name 1)))))) sss_nil)
    (sss_cons (ss_srcPut G.u1 (pv 0) (se_op opd_add (SE.toB (se_srcGet G.u1 (pv 0))) (SE.toB se_int)))
    (sss_cons (ss_set G.nd (se_srcGet G.u1 (pv 0)))
    (sss_cons (ss_set G.nd (se_op opd_mod (SE.toB (se_callT cd_int T.n_int (sab_cons (SE.toB (se_op opd_add (SE.toB (se_srcGet G.u1 (pv 0))) (SE.toB (se_op opd_mul (SE.toB (se_name 4)) (SE.toB se_int))))) sab_nil))) (SE.toB se_int)))
    (sss_cons (ss_set G.nd (se_op opd_mod (SE.toB (se_callT cd_int T.n_int (sab_cons (SE.toB (se_op opd_add (SE.toB (se_op opd_mul (SE.toB (se_name 5)) (SE.toB (se_name 5)))) (SE.toB (se_op opd_mul (SE.toB (se_name 4)) (SE.toB se_int))))) sab_nil))) (SE.toB se_int)))
    (sss_one (ss_ret (se_op opd_mod (SE.toB (se_callT cd_int T.n_int (sab_cons (SE.toB (se_op opd_fdiv (SE.toB (se_name 5)) (SE.toB se_int))) sab_nil))) (SE.toB (se_name 1))))))))))))))
def m_law_of : Ev → M Fl :=
  mRet (mOp ixD (mName 1) (mCallS 1 0 mf_law_pick (mCons (mCl lenD (mCons (mName 1) (mNil))) (mNil))))
def mf_law_of : List PyData → M PyData := fnM true 2 m_law_of
theorem sc_law_of : FnScope ["source", "some"] ["source", "some"] (defScope s_law_of) := ⟨rfl, rfl, rfl, by decide +kernel, rfl, by decide +kernel, by decide +kernel⟩
theorem w_law_of {P : Program} {w : World} {K : PySem.W.Frag} {mg : Str → Option Value} {base : Heap} {k : Nat} {f : Addr} {fd : FuncData} (F : Fun K "_law_of" "_law_of" s_law_of f fd) (T : Txt K mg) (D_law_pick : Def P w K mg base k "_law_pick" ["source", "most"] true mf_law_pick) : FnM P w K mg base (k + 1) f fd ["source", "some"] true (fnM true 2 (m_law_of)) :=
  fnM_of F sc_law_of fun cdv A outer s H G =>
    (sss_one (ss_ret (se_ix (SE.toB (se_name 1)) (SE.toB (se_callDS G D_law_pick (pv 0) (sa_cons (se_callB cd_len T.n_len (sab_cons (SE.toB (se_name 1)) sab_nil)) sa_nil))))))
def m_law_fraction : Ev → M Fl :=
  mSeq (mPar [2, 3] (mCons (mCl absD (mCons (mName 0) (mNil))) (mCons (mCl absD (mCons (mName 1) (mNil))) (mNil)))) (mSeq (whileM 1000000000000000000000000000000000000000000000000000000000000000000000000000000000000000000000000000000000000000000000000000000000000000000000000000000000000000000000000000000000000000000000000000000000000000000000000000000000000000000000000000000000000000000000000000000000000000000000000000000000000 (mAsB (mOp gtD (mName 3) (mC (.int 0)))) (mPar [2, 3] (mCons (mName 3) (mCons (mOp modD (mCl intD (mCons (mName 2) (mNil))) (mName 3)) (mNil))))) (mSeq (mSet 2 (mIfE (mAsB (mOp gtD (mName 1) (mC (.int 0)))) (mName 2) (mOp subD (mC (.int 0)) (mName 2)))) (mRet (mTup (mCons (mOp fdivD (mName 0) (mName 2)) (mCons (mOp fdivD (mName 1) (mName 2)) (mNil)))))))
def mf_law_fraction : List PyData → M PyData := fnM false 4 m_law_fraction
theorem sc_law_fraction : FnScope ["p", "q", "a", "b"] ["p", "q"] (defScope s_law_fraction) := ⟨rfl, rfl, rfl, by decide +kernel, rfl, by decide +kernel, by decide +kernel⟩
theorem w_law_fraction {P : Program} {w : World} {K : PySem.W.Frag} {mg : Str → Option Value} {base : Heap} {k : Nat} {f : Addr} {fd : FuncData} (F : Fun K "_law_fraction" "_law_fraction" s_law_fraction f fd) (T : Txt K mg) : FnM P w K mg base (k + 1) f fd ["p", "q"] false (fnM false 4 (m_law_fraction)) :=
  fnM_of F sc_law_fraction fun cdv A outer s H G =>
    (sss_cons (ss_par G.calm G.nd (sa_cons (se_callB cd_abs T.n_abs (sab_cons (SE.toB (se_name 0)) sab_nil)) (sa_cons (se_callB cd_abs T.n_abs (sab_cons (SE.toB (se_name 1)) sab_nil)) sa_nil)))
    (sss_cons (ss_while 1000000000000000000000000000000000000000000000000000000000000000000000000000000000000000000000000000000000000000000000000000000000000000000000000000000000000000000000000000000000000000000000000000000000000000000000000000000000000000000000000000000000000000000000000000000000000000000000000000000000000 PassesOwn.never (st_cmp opd_gt (SE.toB (se_name 3)) (SE.toB se_int)) (sss_one (ss_par G.calm G.nd (sa_cons (se_name 3) (sa_cons (se_op opd_mod (SE.toB (se_callT cd_int T.n_int (sab_cons (SE.toB (se_name 2)) sab_nil))) (SE.toB (se_name 3))) sa_nil)))))
    (sss_cons (ss_set G.nd (se_if (st_cmp opd_gt (SE.toB (se_name 1)) (SE.toB se_int)) (se_name 2) (se_op opd_sub (SE.toB se_int) (SE.toB (se_name 2)))))
    (sss_one (ss_ret (se_tup (sa_cons (se_op opd_fdiv (SE.toB (se_name 0)) (SE.toB (se_name 2))) (sa_cons (se_op opd_fdiv (SE.toB (se_name 1)) (SE.toB (se_name 2))) sa_nil))))))))
def m_law_drawn_fraction : Ev → M Fl :=
  mRet (mCall 2 mf_law_fraction (mCons (mCallS 1 0 mf_law_of (mCons (mFrz (mLst (mCons (mC (.int 1)) (mCons (mUn negD (mC (.int 1))) (mCons (mC (.int 2)) (mCons (mC (.int 5)) (mCons (mUn negD (mC (.int 7))) (mCons (mOp powD (mC (.int 10)) (mC (.int 12))) (mNil))))))))) (mNil))) (mCons (mCallS 1 0 mf_law_of (mCons (mFrz (mLst (mCons (mC (.int 1)) (mCons (mC (.int 1)) (mCons (mC (.int 2)) (mCons (mC (.int 3)) (mCons (mC (.int 12)) (mNil)))))))) (mNil))) (mNil))))
def mf_law_drawn_fraction : List PyData → M PyData := fnM true 1 m_law_drawn_fraction
theorem sc_law_drawn_fraction : FnScope ["source"] ["source"] (defScope s_law_drawn_fraction) := ⟨rfl, rfl, rfl, by decide +kernel, rfl, by decide +kernel, by decide +kernel⟩
theorem w_law_drawn_fraction {P : Program} {w : World} {K : PySem.W.Frag} {mg : Str → Option Value} {base : Heap} {k : Nat} {f : Addr} {fd : FuncData} (F : Fun K "_law_drawn_fraction" "_law_drawn_fraction" s_law_drawn_fraction f fd) (T : Txt K mg) (D_law_fraction : Def P w K mg base k "_law_fraction" ["p", "q"] false mf_law_fraction) (D_law_of : Def P w K mg base k "_law_of" ["source", "some"] true mf_law_of) : FnM P w K mg base (k + 1) f fd ["source"] true (fnM true 1 (m_law_drawn_fraction)) :=
  fnM_of F sc_law_drawn_fraction fun cdv A outer s H G =>
    (sss_one (ss_ret (se_callD G D_law_fraction (sa_cons (se_callDS G D_law_of (pv 0) (sa_cons (SF.toE (sf_lst (sa_cons se_int (sa_cons (se_neg (SE.toB se_int)) (sa_cons se_int (sa_cons se_int (sa_cons (se_neg (SE.toB se_int)) (sa_cons (se_op opd_pow (SE.toB se_int) (SE.toB se_int)) sa_nil)))))))) sa_nil)) (sa_cons (se_callDS G D_law_of (pv 0) (sa_cons (SF.toE (sf_lst (sa_cons se_int (sa_cons se_int (sa_cons se_int (sa_cons se_int (sa_cons se_int sa_nil))))))) sa_nil)) sa_nil)))))
def m_law_poly : Ev → M Fl :=
  mSeq (mSetD 2 (mDNil)) (mSeq (mFor (mRng rng1D (mCons (mCallS 1 0 mf_law_pick (mCons (mOp addD (mName 1) (mC (.int 1))) (mNil))) (mNil))) (gSet 3) (mDPut 2 (mOp subD (mCallS 1 0 mf_law_pick (mCons (mC (.int 9)) (mNil))) (mC (.int 3))) (mCallS 0 0 mf_law_drawn_fraction (mNil)))) (mRet (mCl tupleD (mCons (mFrz (mLc (mSeqI (mFrz (mCl sortedDL (mCons (mOwn 2) (mNil))))) (gSet 4) (mYes) (mTup (mCons (mName 4) (mCons (mOp dgetD (mOwn 2) (mName 4)) (mNil)))) [4])) (mNil)))))
def mf_law_poly : List PyData → M PyData := fnM true 5 m_law_poly
theorem sc_law_poly : FnScope ["source", "many", "found", "turn", "i"] ["source", "many"] (defScope s_law_poly) := ⟨rfl, rfl, rfl, by decide +kernel, rfl, by decide +kernel, by decide +kernel⟩
theorem w_law_poly {P : Program} {w : World} {K : PySem.W.Frag} {mg : Str → Option Value} {base : Heap} {k : Nat} {f : Addr} {fd : FuncData} (F : Fun K "_law_poly" "_law_poly" s_law_poly f fd) (T : Txt K mg) (D_law_pick : Def P w K mg base k "_law_pick" ["source", "most"] true mf_law_pick) (D_law_drawn_fraction : Def P w K mg base k "_law_drawn_fraction" ["source"] true mf_law_drawn_fraction) : FnM P w K mg base (k + 1) f fd ["source", "many"] true (fnM true 5 (m_law_poly)) :=
  fnM_of F sc_law_poly fun cdv A outer s H G =>
    (sss_cons (ss_setD G.nd sd_nil)
    (sss_cons (ss_for (w := false) (ws := [3]) PassesOwn.never G.calm (si_range1 T.n_range (sa_cons (se_callDS G D_law_pick (pv 0) (sa_cons (se_op opd_add (SE.toB (se_name 1)) (SE.toB se_int)) sa_nil)) sa_nil)) (sg_name G.nd) (sss_one (ss_dput G.u1 (pv 2) (SE.toB (se_op opd_sub (SE.toB (se_callDS G D_law_pick (pv 0) (sa_cons se_int sa_nil))) (SE.toB se_int))) (se_callDS G D_law_drawn_fraction (pv 0) sa_nil))))
    (sss_one (ss_ret (se_callT cd_tuple T.n_tuple (sab_cons (SF.toB (sf_lc (w := false) (own := [("i", 4)]) G.calm G.nd (sj_seq (SF.toB (sf_callB (cf_sortedD G.calm) T.n_sorted (sab_cons (sb_name 2) sab_nil)))) (blk_c ["source", "many", "found", "turn", "i"] (defScope s_law_poly) rfl (by decide +kernel) (by decide +kernel) (by decide +kernel) (by decide +kernel)) (fun _ _ _ _ _ => (sg_name (G.blk).nd)) (fun _ _ _ _ _ => sts_nil) (fun _ _ _ _ _ => (se_tup (sa_cons (se_name 4) (sa_cons (se_dget (G.blk).u1 (sb_name 2) (SE.toB (se_name 4))) sa_nil)))))) sab_nil))))))
def m_law_bent (rec : List PyData → M PyData) : Ev → M Fl :=
  mSeq (mIfS (mAndT (mAsB (mIsi "int" (mName 1))) (mAndT (mNotT (mAsB (mIsi "bool" (mName 1)))) (mAsB (mOp gtD (mCallS 1 0 mf_law_pick (mCons (mC (.int 3)) (mNil))) (mC (.int 0)))))) (mRet (mOp addD (mName 1) (mCallS 1 0 mf_law_of (mCons (mFrz (mLst (mCons (mC (.int 1)) (mCons (mUn negD (mC (.int 1))) (mCons (mC (.int 2)) (mNil)))))) (mNil))))) (mPass)) (mSeq (mIfS (mOrT (mNotT (mAsB (mIsi "tuple" (mName 1)))) (mOrT (mAsB (mOp eqD (mName 1) (mTup (mNil)))) (mAsB (mOp eqD (mCallS 1 0 mf_law_pick (mCons (mC (.int 9)) (mNil))) (mC (.int 0)))))) (mRet (mCallS 1 0 mf_law_of (mCons (mName 2) (mNil)))) (mPass)) (mSeq (mPar [3, 4] (mCons (mCallS 1 0 mf_law_pick (mCons (mCl lenD (mCons (mName 1) (mNil))) (mNil))) (mCons (mCallS 1 0 mf_law_pick (mCons (mC (.int 9)) (mNil))) (mNil)))) (mSeq (mIfS (mAsB (mOp ltD (mName 4) (mC (.int 7)))) (mRet (mOp addD (mOp addD (mCut cutD (mName 1) (mNoP) (mP (mName 3))) (mTup (mCons (mCallS 2 0 rec (mCons (mOp ixD (mName 1) (mName 3)) (mCons (mName 2) (mNil)))) (mNil)))) (mCut cutD (mName 1) (mP (mOp addD (mName 3) (mC (.int 1)))) (mNoP)))) (mPass)) (mRet (mCallS 1 0 mf_law_of (mCons (mFrz (mLst (mCons (mOp addD (mCut cutD (mName 1) (mNoP) (mP (mName 3))) (mCut cutD (mName 1) (mP (mOp addD (mName 3) (mC (.int 1)))) (mNoP))) (mCons (mOp addD (mCut cutD (mName 1) (mNoP) (mP (mOp addD (mName 3) (mC (.int 1))))) (mCut cutD (mName 1) (mP (mName 3)) (mNoP))) (mCons (mUn' revD (mName 1)) (mCons (mFrz (mCl listL (mCons (mName 1) (mNil)))) (mNil))))))) (mNil)))))))
def mf_law_bent : Nat → List PyData → M PyData
  | 0 => fun _ => lft none
  | n + 1 => fnM true 5 (m_law_bent (mf_law_bent n))
theorem sc_law_bent : FnScope ["source", "value", "odd", "i", "way"] ["source", "value", "odd"] (defScope s_law_bent) := ⟨rfl, rfl, rfl, by decide +kernel, rfl, by decide +kernel, by decide +kernel⟩
theorem w_law_bent {P : Program} {w : World} {K : PySem.W.Frag} {mg : Str → Option Value} {base : Heap} {k : Nat} {f : Addr} {fd : FuncData} (F : Fun K "_law_bent" "_law_bent" s_law_bent f fd) (T : Txt K mg) (D_law_pick : Def P w K mg base k "_law_pick" ["source", "most"] true mf_law_pick) (D_law_of : Def P w K mg base k "_law_of" ["source", "some"] true mf_law_of) {rec : List PyData → M PyData} (D_rec : Def P w K mg base k "_law_bent" ["source", "value", "odd"] true rec) : FnM P w K mg base (k + 1) f fd ["source", "value", "odd"] true (fnM true 5 (m_law_bent rec)) :=
  fnM_of F sc_law_bent fun cdv A outer s H G =>
    (sss_cons (ss_if (SW.t (sw_and (st_val (se_isi T.n_isinstance (SE.toB (se_name 1)) T.n_int)) (sw_and (st_not (st_val (se_isi T.n_isinstance (SE.toB (se_name 1)) T.n_bool))) (sw_and1 (st_cmp opd_gt (SE.toB (se_callDS G D_law_pick (pv 0) (sa_cons se_int sa_nil))) (SE.toB se_int)))))) (sss_one (ss_ret (se_op opd_add (SE.toB (se_name 1)) (SE.toB (se_callDS G D_law_of (pv 0) (sa_cons (SF.toE (sf_lst (sa_cons se_int (sa_cons (se_neg (SE.toB se_int)) (sa_cons se_int sa_nil))))) sa_nil)))))) sss_nil)
    (sss_cons (ss_if (SW.t (sw_or (st_not (st_val (se_isi T.n_isinstance (SE.toB (se_name 1)) T.n_tuple))) (sw_or (st_cmp (opd_eq G.u) (SE.toB (se_name 1)) (SE.toB (se_tup sa_nil))) (sw_or1 (st_cmp (opd_eq G.u) (SE.toB (se_callDS G D_law_pick (pv 0) (sa_cons se_int sa_nil))) (SE.toB se_int)))))) (sss_one (ss_ret (se_callDS G D_law_of (pv 0) (sa_cons (se_name 2) sa_nil)))) sss_nil)
    (sss_cons (ss_par G.calm G.nd (sa_cons (se_callDS G D_law_pick (pv 0) (sa_cons (se_callB cd_len T.n_len (sab_cons (SE.toB (se_name 1)) sab_nil)) sa_nil)) (sa_cons (se_callDS G D_law_pick (pv 0) (sa_cons se_int sa_nil)) sa_nil)))
    (sss_cons (ss_if (st_cmp opd_lt (SE.toB (se_name 4)) (SE.toB se_int)) (sss_one (ss_ret (se_op opd_add (SE.toB (se_op opd_add (SE.toB (se_cut (SE.toB (se_name 1)) sp_none (sp_some (se_name 3)))) (SE.toB (se_tup (sa_cons (se_callDS G D_rec (pv 0) (sa_cons (se_ix (SE.toB (se_name 1)) (SE.toB (se_name 3))) (sa_cons (se_name 2) sa_nil))) sa_nil))))) (SE.toB (se_cut (SE.toB (se_name 1)) (sp_some (se_op opd_add (SE.toB (se_name 3)) (SE.toB se_int))) sp_none))))) sss_nil)
    (sss_one (ss_ret (se_callDS G D_law_of (pv 0) (sa_cons (SF.toE (sf_lst (sa_cons (se_op opd_add (SE.toB (se_cut (SE.toB (se_name 1)) sp_none (sp_some (se_name 3)))) (SE.toB (se_cut (SE.toB (se_name 1)) (sp_some (se_op opd_add (SE.toB (se_name 3)) (SE.toB se_int))) sp_none))) (sa_cons (se_op opd_add (SE.toB (se_cut (SE.toB (se_name 1)) sp_none (sp_some (se_op opd_add (SE.toB (se_name 3)) (SE.toB se_int))))) (SE.toB (se_cut (SE.toB (se_name 1)) (sp_some (se_name 3)) sp_none))) (sa_cons (se_rev (SE.toB (se_name 1))) (sa_cons (SF.toE (sf_callT cf_list T.n_list (sab_cons (SE.toB (se_name 1)) sab_nil))) sa_nil)))))) sa_nil))))))))
def m_law_is_int : Ev → M Fl :=
  mRet (mAndV (mIsi "int" (mName 0)) (mNotV (mIsi "bool" (mName 0))))
def mf_law_is_int : List PyData → M PyData := fnM false 1 m_law_is_int
theorem sc_law_is_int : FnScope ["value"] ["value"] (defScope s_law_is_int) := ⟨rfl, rfl, rfl, by decide +kernel, rfl, by decide +kernel, by decide +kernel⟩
theorem w_law_is_int {P : Program} {w : World} {K : PySem.W.Frag} {mg : Str → Option Value} {base : Heap} {k : Nat} {f : Addr} {fd : FuncData} (F : Fun K "_law_is_int" "_law_is_int" s_law_is_int f fd) (T : Txt K mg) : FnM P w K mg base (k + 1) f fd ["value"] false (fnM false 1 (m_law_is_int)) :=
  fnM_of F sc_law_is_int fun cdv A outer s H G =>
    (sss_one (ss_ret (se_and (se_isi T.n_isinstance (SE.toB (se_name 0)) T.n_int) (se_one (se_not (se_isi T.n_isinstance (SE.toB (se_name 0)) T.n_bool))))))
def m_law_is_fraction : Ev → M Fl :=
  mSeq (mIfS (mOrT (mNotT (mAsB (mIsi "tuple" (mName 0)))) (mOrT (mAsB (mOp neD (mCl lenD (mCons (mName 0) (mNil))) (mC (.int 2)))) (mOrT (mNotT (mAsB (mCall 1 mf_law_is_int (mCons (mOp ixD (mName 0) (mC (.int 0))) (mNil))))) (mNotT (mAsB (mCall 1 mf_law_is_int (mCons (mOp ixD (mName 0) (mC (.int 1))) (mNil)))))))) (mRet (mC (.bool false))) (mPass)) (mRet (mAndV (mOp gtD (mOp ixD (mName 0) (mC (.int 1))) (mC (.int 0))) (mOp eqD (mCall 2 mf_law_fraction (mCons (mOp ixD (mName 0) (mC (.int 0))) (mCons (mOp ixD (mName 0) (mC (.int 1))) (mNil)))) (mName 0))))
def mf_law_is_fraction : List PyData → M PyData := fnM false 1 m_law_is_fraction
theorem sc_law_is_fraction : FnScope ["value"] ["value"] (defScope s_law_is_fraction) := ⟨rfl, rfl, rfl, by decide +kernel, rfl, by decide +kernel, by decide +kernel⟩
theorem w_law_is_fraction {P : Program} {w : World} {K : PySem.W.Frag} {mg : Str → Option Value} {base : Heap} {k : Nat} {f : Addr} {fd : FuncData} (F : Fun K "_law_is_fraction" "_law_is_fraction" s_law_is_fraction f fd) (T : Txt K mg) (D_law_is_int : Def P w K mg base k "_law_is_int" ["value"] false mf_law_is_int) (D_law_fraction : Def P w K mg base k "_law_fraction" ["p", "q"] false mf_law_fraction) : FnM P w K mg base (k + 1) f fd ["value"] false (fnM false 1 (m_law_is_fraction)) :=
  fnM_of F sc_law_is_fraction fun cdv A outer s H G =>
    (sss_cons (ss_if (SW.t (sw_or (st_not (st_val (se_isi T.n_isinstance (SE.toB (se_name 0)) T.n_tuple))) (sw_or (st_cmp (opd_ne G.u) (SE.toB (se_callB cd_len T.n_len (sab_cons (SE.toB (se_name 0)) sab_nil))) (SE.toB se_int)) (sw_or (st_not (st_val (se_callD G D_law_is_int (sa_cons (se_ix (SE.toB (se_name 0)) (SE.toB se_int)) sa_nil)))) (sw_or1 (st_not (st_val (se_callD G D_law_is_int (sa_cons (se_ix (SE.toB (se_name 0)) (SE.toB se_int)) sa_nil))))))))) (sss_one (ss_ret se_bl)) sss_nil)
    (sss_one (ss_ret (se_and (se_cmp opd_gt (SE.toB (se_ix (SE.toB (se_name 0)) (SE.toB se_int))) (SE.toB se_int)) (se_one (se_cmp (opd_eq G.u) (SE.toB (se_callD G D_law_fraction (sa_cons (se_ix (SE.toB (se_name 0)) (SE.toB se_int)) (sa_cons (se_ix (SE.toB (se_name 0)) (SE.toB se_int)) sa_nil)))) (SE.toB (se_name 0))))))))
def m_law_is_poly : Ev → M Fl :=
  mSeq (mIfS (mOrT (mNotT (mAsB (mIsi "tuple" (mName 0)))) (mAsB (mOp neD (mFrz (mLc (mSeqI (mName 0)) (gSet 1) (mOrT (mNotT (mAsB (mIsi "tuple" (mName 1)))) (mAsB (mOp neD (mCl lenD (mCons (mName 1) (mNil))) (mC (.int 2))))) (mName 1) [1])) (mFrz (mLst (mNil)))))) (mRet (mC (.bool false))) (mPass)) (mSeq (mIfS (mAsB (mOp neD (mFrz (mLc (mSeqI (mName 0)) (gTupD 2 (gsCons (gSet 2) (gsCons (gSet 3) (gsNil)))) (mOrT (mNotT (mAsB (mCall 1 mf_law_is_int (mCons (mName 2) (mNil))))) (mOrT (mNotT (mAsB (mCall 1 mf_law_is_fraction (mCons (mName 3) (mNil))))) (mAsB (mOp eqD (mName 3) (mTup (mCons (mC (.int 0)) (mCons (mC (.int 1)) (mNil)))))))) (mName 2) [2, 3])) (mFrz (mLst (mNil))))) (mRet (mC (.bool false))) (mPass)) (mRet (mOp eqD (mFrz (mLc (mRng rng2D (mCons (mC (.int 1)) (mCons (mCl lenD (mCons (mName 0) (mNil))) (mNil)))) (gSet 2) (mAsB (mOp geD (mOp ixD (mOp ixD (mName 0) (mOp subD (mName 2) (mC (.int 1)))) (mC (.int 0))) (mOp ixD (mOp ixD (mName 0) (mName 2)) (mC (.int 0))))) (mName 2) [2])) (mFrz (mLst (mNil))))))
def mf_law_is_poly : List PyData → M PyData := fnM false 4 m_law_is_poly
theorem sc_law_is_poly : FnScope ["value", "pair", "i", "c"] ["value"] (defScope s_law_is_poly) := ⟨rfl, rfl, rfl, by decide +kernel, rfl, by decide +kernel, by decide +kernel⟩
theorem w_law_is_poly {P : Program} {w : World} {K : PySem.W.Frag} {mg : Str → Option Value} {base : Heap} {k : Nat} {f : Addr} {fd : FuncData} (F : Fun K "_law_is_poly" "_law_is_poly" s_law_is_poly f fd) (T : Txt K mg) (D_law_is_int : Def P w K mg base k "_law_is_int" ["value"] false mf_law_is_int) (D_law_is_fraction : Def P w K mg base k "_law_is_fraction" ["value"] false mf_law_is_fraction) : FnM P w K mg base (k + 1) f fd ["value"] false (fnM false 4 (m_law_is_poly)) :=
  fnM_of F sc_law_is_poly fun cdv A outer s H G =>
    (sss_cons (ss_if (SW.t (sw_or (st_not (st_val (se_isi T.n_isinstance (SE.toB (se_name 0)) T.n_tuple))) (sw_or1 (st_cmp (opd_ne G.u) (SF.toB (sf_lc (w := false) (own := [("pair", 1)]) G.calm G.nd (sj_seq (SE.toB (se_name 0))) (blk_c ["value", "pair", "i", "c"] (defScope s_law_is_poly) rfl (by decide +kernel) (by decide +kernel) (by decide +kernel) (by decide +kernel)) (fun _ _ _ _ _ => (sg_name (G.blk).nd)) (fun _ _ _ _ _ => (sts_one (SW.t (sw_or (st_not (st_val (se_isi T.n_isinstance (SE.toB (se_name 1)) T.n_tuple))) (sw_or1 (st_cmp (opd_ne (G.blk).u) (SE.toB (se_callB cd_len T.n_len (sab_cons (SE.toB (se_name 1)) sab_nil))) (SE.toB se_int))))))) (fun _ _ _ _ _ => (se_name 1)))) (SF.toB (sf_lst sa_nil)))))) (sss_one (ss_ret se_bl)) sss_nil)
    (sss_cons (ss_if (st_cmp (opd_ne G.u) (SF.toB (sf_lc (w := false) (own := [("i", 2), ("c", 3)]) G.calm G.nd (sj_seq (SE.toB (se_name 0))) (blk_c ["value", "pair", "i", "c"] (defScope s_law_is_poly) rfl (by decide +kernel) (by decide +kernel) (by decide +kernel) (by decide +kernel)) (fun _ _ _ _ _ => (sg_tup (G.blk).calm (sgs_cons (sg_name (G.blk).nd) (sgs_cons (sg_name (G.blk).nd) sgs_nil)))) (fun _ _ _ _ _ => (sts_one (SW.t (sw_or (st_not (st_val (se_callD (G.blk) D_law_is_int (sa_cons (se_name 2) sa_nil)))) (sw_or (st_not (st_val (se_callD (G.blk) D_law_is_fraction (sa_cons (se_name 3) sa_nil)))) (sw_or1 (st_cmp (opd_eq (G.blk).u) (SE.toB (se_name 3)) (SE.toB (se_tup (sa_cons se_int (sa_cons se_int sa_nil))))))))))) (fun _ _ _ _ _ => (se_name 2)))) (SF.toB (sf_lst sa_nil))) (sss_one (ss_ret se_bl)) sss_nil)
    (sss_one (ss_ret (se_cmp (opd_eq G.u) (SF.toB (sf_lc (w := false) (own := [("i", 2)]) G.calm G.nd (SI.toJ (si_range2 T.n_range (sa_cons se_int (sa_cons (se_callB cd_len T.n_len (sab_cons (SE.toB (se_name 0)) sab_nil)) sa_nil)))) (blk_c ["value", "pair", "i", "c"] (defScope s_law_is_poly) rfl (by decide +kernel) (by decide +kernel) (by decide +kernel) (by decide +kernel)) (fun _ _ _ _ _ => (sg_name (G.blk).nd)) (fun _ _ _ _ _ => (sts_one (st_cmp opd_ge (SE.toB (se_ix (SE.toB (se_ix (SE.toB (se_name 0)) (SE.toB (se_op opd_sub (SE.toB (se_name 2)) (SE.toB se_int))))) (SE.toB se_int))) (SE.toB (se_ix (SE.toB (se_ix (SE.toB (se_name 0)) (SE.toB (se_name 2)))) (SE.toB se_int)))))) (fun _ _ _ _ _ => (se_name 2)))) (SF.toB (sf_lst sa_nil)))))))
def m_law_fault : Ev → M Fl :=
  mSeq (mIfS (mNotT (mAsB (mCall 1 mf_law_is_poly (mCons (mName 1) (mNil))))) (mRet (mTup (mCons (mC (.str "form")) (mNil)))) (mPass)) (mSeq (mAsg (gTupD 2 (gsCons (gSet 2) (gsCons (gSet 3) (gsNil)))) (mTup (mCons (mFrzD (mCl dictL (mCons (mFrz (mCl listL (mCons (mName 1) (mNil)))) (mNil)))) (mCons (mFrzD (mCl dictL (mCons (mFrz (mCl listL (mCons (mName 0) (mNil)))) (mNil)))) (mNil))))) (mSeq (mSetF 4 (mLc (mSeqI (mFrz (mCl sortedDL (mCons (mFrzD (mCl dictL (mCons (mOp addD (mFrz (mCl listL (mCons (mName 1) (mNil)))) (mFrz (mCl listL (mCons (mName 0) (mNil))))) (mNil)))) (mNil))))) (gSet 5) (mAsB (mOp neD (mOp3 dget2D (mName 2) (mName 5) (mTup (mCons (mC (.int 0)) (mCons (mC (.int 1)) (mNil))))) (mOp3 dget2D (mName 3) (mName 5) (mTup (mCons (mC (.int 0)) (mCons (mC (.int 1)) (mNil))))))) (mName 5) [5])) (mRet (mIfE (mAsB (mOp neD (mOwn 4) (mFrz (mLst (mNil))))) (mTup (mCons (mC (.str "power")) (mCons (mOp ixD (mOwn 4) (mC (.int 0))) (mCons (mOp3 dget2D (mName 3) (mOp ixD (mOwn 4) (mC (.int 0))) (mTup (mCons (mC (.int 0)) (mCons (mC (.int 1)) (mNil))))) (mNil))))) (mC .none)))))
def mf_law_fault : List PyData → M PyData := fnM false 6 m_law_fault
theorem sc_law_fault : FnScope ["due", "value", "given", "known", "wrong", "i"] ["due", "value"] (defScope s_law_fault) := ⟨rfl, rfl, rfl, by decide +kernel, rfl, by decide +kernel, by decide +kernel⟩
theorem w_law_fault {P : Program} {w : World} {K : PySem.W.Frag} {mg : Str → Option Value} {base : Heap} {k : Nat} {f : Addr} {fd : FuncData} (F : Fun K "_law_fault" "_law_fault" s_law_fault f fd) (T : Txt K mg) (D_law_is_poly : Def P w K mg base k "_law_is_poly" ["value"] false mf_law_is_poly) : FnM P w K mg base (k + 1) f fd ["due", "value"] false (fnM false 6 (m_law_fault)) :=
  fnM_of F sc_law_fault fun cdv A outer s H G =>
    (sss_cons (ss_if (st_not (st_val (se_callD G D_law_is_poly (sa_cons (se_name 1) sa_nil)))) (sss_one (ss_ret (se_tup (sa_cons se_str sa_nil)))) sss_nil)
    (sss_cons (ss_asg (ws := [2, 3]) (se_tup (sa_cons (SD.toE (sd_callT (cdd_dict G.calm) T.n_dict (sab_cons (SF.toB (sf_callT cf_list T.n_list (sab_cons (SE.toB (se_name 1)) sab_nil))) sab_nil))) (sa_cons (SD.toE (sd_callT (cdd_dict G.calm) T.n_dict (sab_cons (SF.toB (sf_callT cf_list T.n_list (sab_cons (SE.toB (se_name 0)) sab_nil))) sab_nil))) sa_nil))) (sg_tup G.calm (sgs_cons (sg_name G.nd) (sgs_cons (sg_name G.nd) sgs_nil))))
    (sss_cons (ss_setLc (w := false) (own := [("i", 5)]) G.calm G.nd (sj_seq (SF.toB (sf_callB (cf_sortedD G.calm) T.n_sorted (sab_cons (SD.toB (sd_callT (cdd_dict G.calm) T.n_dict (sab_cons (SE.toB (se_op opd_add (SF.toB (sf_callT cf_list T.n_list (sab_cons (SE.toB (se_name 1)) sab_nil))) (SF.toB (sf_callT cf_list T.n_list (sab_cons (SE.toB (se_name 0)) sab_nil))))) sab_nil))) sab_nil)))) (blk_c ["due", "value", "given", "known", "wrong", "i"] (defScope s_law_fault) rfl (by decide +kernel) (by decide +kernel) (by decide +kernel) (by decide +kernel)) rfl (fun _ _ _ _ _ => (sg_name (G.blk).nd)) (fun _ _ _ _ _ => (sts_one (st_cmp (opd_ne (G.blk).u) (SE.toB (se_dget2 (G.blk).u1 (SE.toB (se_name 2)) (SE.toB (se_name 5)) (se_tup (sa_cons se_int (sa_cons se_int sa_nil))))) (SE.toB (se_dget2 (G.blk).u1 (SE.toB (se_name 3)) (SE.toB (se_name 5)) (se_tup (sa_cons se_int (sa_cons se_int sa_nil)))))))) (fun _ _ _ _ _ => (se_name 5)))
    (sss_one (ss_ret (se_if (st_cmp (opd_ne G.u) (sb_name 4) (SF.toB (sf_lst sa_nil))) (se_tup (sa_cons se_str (sa_cons (se_ix (sb_name 4) (SE.toB se_int)) (sa_cons (se_dget2 G.u1 (SE.toB (se_name 3)) (SE.toB (se_ix (sb_name 4) (SE.toB se_int))) (se_tup (sa_cons se_int (sa_cons se_int sa_nil)))) sa_nil)))) se_non))))))
theorem r_law_bent {P : Program} {w : World} {K : PySem.W.Frag} {mg : Str → Option Value} {base : Heap} {k : Nat} {f : Addr} {fd : FuncData} (F : Fun K "_law_bent" "_law_bent" s_law_bent f fd) (T : Txt K mg) (D_law_pick : Def P w K mg base k "_law_pick" ["source", "most"] true mf_law_pick) (D_law_of : Def P w K mg base k "_law_of" ["source", "some"] true mf_law_of) (hm : mg "_law_bent" = some (.ref f)) (hk : PySem.W.keepIn K (.ref f) = true) (hb : Binds K fd ["source", "value", "odd"] []) : ∀ n : Nat, FnM P w K mg base (k + n) f fd ["source", "value", "odd"] true (mf_law_bent n)
  | 0 => fnM_fail
  | n + 1 => w_law_bent F T (D_law_pick.mono (Nat.le_add_right _ _)) (D_law_of.mono (Nat.le_add_right _ _)) ⟨f, fd, r_law_bent F T D_law_pick D_law_of hm hk hb n, hm, hk, hb⟩
theorem sc_law_open_cells : FnScope ["script", "stirred", "cell", "cells"] ["script"] (defScope s_law_open_cells) := ⟨rfl, rfl, rfl, by decide +kernel, rfl, by decide +kernel, by decide +kernel⟩
theorem w_law_open_cells {P : Program} {w : World} {K : PySem.W.Frag} {mg : Str → Option Value} {base : Heap} {k : Nat} {f : Addr} {fd : FuncData} (F : Fun K "_law_open_cells" "_law_open_cells" s_law_open_cells f fd) (n_int : mg "int" = none) (n_abs : mg "abs" = none) : FnG P w K mg base (k + 1) f fd ["script"] (spOpen K) :=
  fnG_of F sc_law_open_cells (fun vs H Q h => by obtain ⟨a, ns, rfl, _⟩ := h; rfl) fun cdv A outer s H vs Q hr hgu ⟨a, ns, ev, hS, hz, q⟩ => by
    subst ev
    refine ⟨_, pss_cons (ps_set (i := 1) sc_law_open_cells.nd rfl (.inl rfl) pe_int)
      (pss_cons (ps_for PassesOwn.never rfl (pi_list (pv 0)) (pg_name (i := 2) sc_law_open_cells.nd rfl (.inl rfl))
        (pss_one (ps_set (i := 1) sc_law_open_cells.nd rfl (.inl rfl) (pe_op op_mod (pe_callTy call_int1 rfl n_int (by decide +kernel) (pa_cons (pe_op op_add (pe_op op_add (pe_op op_mul (pv 1) pe_int) (pe_op op_mul (pv 2) pe_int)) pe_int) pa_nil)) pe_int))))
      (pss_cons (ps_setLc (i := 3) (own := [("cell", 2)]) rfl sc_law_open_cells.nd rfl rfl rfl (pi_list (pv 0)) (blk_c ["script", "stirred", "cell", "cells"] (defScope s_law_open_cells) rfl (by decide +kernel) (by decide +kernel) (by decide +kernel) (by decide +kernel))
        (fun _ _ _ _ _ => pg_name (i := 2) sc_law_open_cells.nd rfl (.inl rfl)) (fun _ _ _ _ _ => pts_nil) (fun _ _ _ _ _ => pe_callB call_abs rfl n_abs (by decide +kernel) (pa_cons (pv 2) pa_nil)))
      (pss_one (ps_ret (pe_disp (pps_cons pe_str (pe_revL (pv 3)) (pps_cons pe_str pe_int (pps_cons pe_str (pv 1) (pps_cons pe_str pe_int pps_nil)))) rfl rfl (by decide) (by decide)))))), ?_⟩
    exact open_read hS hz q

def m_law : Ev → M Fl :=
  mSeq (mSet 2 (mFrz (mLst (mCons (mC .none) (mCons (mC (.bool true)) (mCons (mC (.int 0)) (mCons (mC (.int 1)) (mCons (mUn negD (mC (.int 1))) (mCons (mC (.int 2)) (mCons (mC (.str "a")) (mCons (mTup (mNil)) (mCons (mTup (mCons (mC (.int 0)) (mNil))) (mCons (mTup (mCons (mC (.int 1)) (mNil))) (mCons (mTup (mCons (mC (.int 0)) (mCons (mC (.int 1)) (mNil)))) (mCons (mTup (mCons (mC (.int 1)) (mCons (mC (.int 0)) (mNil)))) (mCons (mTup (mCons (mC (.int 2)) (mCons (mC (.int 4)) (mNil)))) (mCons (mTup (mCons (mTup (mCons (mC (.int 0)) (mCons (mTup (mCons (mC (.int 1)) (mCons (mC (.int 1)) (mNil)))) (mNil)))) (mNil))) (mCons (mFrz (mLst (mNil))) (mCons (mFrzD (mDNil)) (mCons (mOp powD (mC (.int 10)) (mC (.int 20))) (mNil))))))))))))))))))))) (mSeq (mFor (mRng rng1D (mCons (mC (.int 3)) (mNil))) (gSet 3) (mSeq (mAsg (gTupD 3 (gsCons (gSet 4) (gsCons (gSet 5) (gsCons (gSet 6) (gsNil))))) (mTup (mCons (mCallS 1 1 mf_law_poly (mCons (mC (.int 4)) (mNil))) (mCons (mCallS 1 1 mf_law_poly (mCons (mC (.int 3)) (mNil))) (mCons (mCallS 1 1 mf_law_of (mCons (mName 2) (mNil))) (mNil)))))) (mSeq (mFor (mRng rng1D (mCons (mC (.int 34)) (mNil))) (gSet 7) (mSet 6 (mIfE (mAsB (mOp eqD (mCallS 1 1 mf_law_pick (mCons (mC (.int 5)) (mNil))) (mC (.int 0)))) (mFrz (mLst (mCons (mName 6) (mNil)))) (mTup (mCons (mName 6) (mNil)))))) (mSeq (mSetF 8 (mLst (mCons (mName 4) (mCons (mFrz (mCl listL (mCons (mName 4) (mNil)))) (mCons (mCut cutD (mName 4) (mP (mC (.int 1))) (mNoP)) (mCons (mCut cutD (mName 4) (mNoP) (mP (mUn negD (mC (.int 1))))) (mCons (mUn' revD (mName 4)) (mCons (mOp addD (mName 4) (mCut cutD (mName 4) (mP (mUn negD (mC (.int 1)))) (mNoP))) (mCons (mName 5) (mCons (mTup (mNil)) (mCons (mC .none) (mCons (mName 6) (mCons (mTup (mCons (mName 6) (mNil))) (mNil)))))))))))))) (mSeq (mAppend 8 (mCl tupleD (mCons (mFrz (mLc (mSeqI (mName 4)) (gTupD 2 (gsCons (gSet 12) (gsCons (gTupD 2 (gsCons (gSet 13) (gsCons (gSet 14) (gsNil)))) (gsNil)))) (mYes) (mTup (mCons (mName 12) (mCons (mTup (mCons (mOp mulD (mC (.int 2)) (mName 13)) (mCons (mOp mulD (mC (.int 2)) (mName 14)) (mNil)))) (mNil)))) [12, 13, 14])) (mNil)))) (mSeq (mAppend 8 (mCl tupleD (mCons (mFrz (mLc (mSeqI (mName 4)) (gTupD 2 (gsCons (gSet 12) (gsCons (gTupD 2 (gsCons (gSet 13) (gsCons (gSet 14) (gsNil)))) (gsNil)))) (mYes) (mTup (mCons (mName 12) (mCons (mTup (mCons (mOp addD (mName 13) (mName 14)) (mCons (mName 14) (mNil)))) (mNil)))) [12, 13, 14])) (mNil)))) (mSeq (mSetF 8 (mOp addL (mOwn 8) (mFrz (mLst (mCons (mCl tupleD (mCons (mFrz (mLc (mSeqI (mName 4)) (gTupD 2 (gsCons (gSet 12) (gsCons (gSet 15) (gsNil)))) (mYes) (mTup (mCons (mOp addD (mName 12) (mC (.int 1))) (mCons (mName 15) (mNil)))) [12, 15])) (mNil))) (mCons (mCl tupleD (mCons (mFrz (mLc (mSeqI (mName 4)) (gTupD 2 (gsCons (gSet 12) (gsCons (gSet 15) (gsNil)))) (mYes) (mTup (mCons (mName 12) (mCons (mFrz (mCl listL (mCons (mName 15) (mNil)))) (mNil)))) [12, 15])) (mNil))) (mCons (mTup (mCons (mTup (mCons (mC (.int 0)) (mCons (mTup (mCons (mC (.int 0)) (mCons (mC (.int 1)) (mNil)))) (mNil)))) (mNil))) (mNil)))))))) (mSeq (mSetF 8 (mOp addL (mOwn 8) (mFrz (mLst (mCons (mOp addD (mName 4) (mTup (mCons (mTup (mCons (mOp powD (mC (.int 10)) (mC (.int 30))) (mCons (mTup (mCons (mC (.int 1)) (mCons (mC (.int 1)) (mNil)))) (mNil)))) (mNil)))) (mCons (mOp addD (mName 4) (mTup (mCons (mTup (mCons (mC (.int 40)) (mCons (mTup (mCons (mName 6) (mCons (mC (.int 1)) (mNil)))) (mNil)))) (mNil)))) (mCons (mTup (mCons (mTup (mCons (mC (.bool true)) (mCons (mTup (mCons (mC (.int 1)) (mCons (mC (.int 1)) (mNil)))) (mNil)))) (mNil))) (mCons (mTup (mCons (mTup (mCons (mC (.int 0)) (mCons (mC (.int 1)) (mNil)))) (mNil))) (mNil))))))))) (mSeq (mFor (mSeqI (mOp addD (mOp addD (mOwn 8) (mName 2)) (mFrz (mLc (mRng rng1D (mCons (mC (.int 14)) (mNil))) (gSet 16) (mYes) (mCallS 2 1 (mf_law_bent 8) (mCons (mName 4) (mCons (mName 2) (mNil)))) [16])))) (gSet 9) (mSeq (mPar [10, 11] (mCons (mCl reprL (mCons (mName 9) (mNil))) (mCons (mCall 2 mf_law_fault (mCons (mName 4) (mCons (mName 9) (mNil)))) (mNil)))) (mSeq (mIfS (mOrT (mAsB (mOp neD (mCl reprL (mCons (mCall 2 mf_judge_poly (mCons (mName 4) (mCons (mName 9) (mNil)))) (mNil))) (mCl reprL (mCons (mName 11) (mNil))))) (mAsB (mOp neD (mCl reprL (mCons (mName 9) (mNil))) (mName 10)))) (mRet (mC (.bool false))) (mPass)) (mIfS (mAsB (mOp neD (mCl reprL (mCons (mFrz (mLst (mCons (mCall 1 mf_is_poly (mCons (mName 9) (mNil))) (mCons (mCall 1 mf_is_fraction (mCons (mName 9) (mNil))) (mNil))))) (mNil))) (mCl reprL (mCons (mFrz (mLst (mCons (mCall 1 mf_law_is_poly (mCons (mName 9) (mNil))) (mCons (mCall 1 mf_law_is_fraction (mCons (mName 9) (mNil))) (mNil))))) (mNil))))) (mRet (mC (.bool false))) (mPass))))) (mIfS (mAsB (mIsNot (mCall 2 mf_judge_poly (mCons (mName 4) (mCons (mName 4) (mNil)))))) (mRet (mC (.bool false))) (mPass))))))))))) (mRet (mAndV (mIsN (mCall 2 mf_judge_poly (mCons (mTup (mNil)) (mCons (mTup (mNil)) (mNil))))) (mOp eqD (mCall 2 mf_judge_poly (mCons (mTup (mNil)) (mCons (mTup (mCons (mTup (mCons (mC (.int 0)) (mCons (mTup (mCons (mC (.int 1)) (mCons (mC (.int 1)) (mNil)))) (mNil)))) (mNil))) (mNil)))) (mTup (mCons (mC (.str "power")) (mCons (mC (.int 0)) (mCons (mTup (mCons (mC (.int 0)) (mCons (mC (.int 1)) (mNil)))) (mNil)))))))))
theorem sc_law : FnScope ["script", "source", "odd", "lap", "due", "other", "deep", "turn", "values", "value", "shown", "fault", "i", "p", "q", "c", "look"] ["script"] (defScope s_law) := ⟨rfl, rfl, rfl, by decide +kernel, rfl, by decide +kernel, by decide +kernel⟩
theorem w_law {P : Program} {w : World} {K : PySem.W.Frag} {mg : Str → Option Value} {base : Heap} {k : Nat} {f fo : Addr} {fd fdo : FuncData} (F : Fun K "law" "law" s_law f fd) (T : Txt K mg) (Fo : FnG P w K mg base k fo fdo ["script"] (spOpen K)) (mo : mg "_law_open_cells" = some (.ref fo)) (ko : PySem.W.keepIn K (.ref fo) = true) (bo : Binds K fdo ["script"] []) (D_law_of : Def P w K mg base k "_law_of" ["source", "some"] true mf_law_of) (D_law_poly : Def P w K mg base k "_law_poly" ["source", "many"] true mf_law_poly) (D_law_pick : Def P w K mg base k "_law_pick" ["source", "most"] true mf_law_pick) (D_law_bent : Def P w K mg base k "_law_bent" ["source", "value", "odd"] true (mf_law_bent 8)) (D_law_fault : Def P w K mg base k "_law_fault" ["due", "value"] false mf_law_fault) (D_judge_poly : Def P w K mg base k "judge_poly" ["due", "value"] false mf_judge_poly) (D_is_fraction : Def P w K mg base k "is_fraction" ["value"] false mf_is_fraction) (D_is_poly : Def P w K mg base k "is_poly" ["value"] false mf_is_poly) (D_law_is_fraction : Def P w K mg base k "_law_is_fraction" ["value"] false mf_law_is_fraction) (D_law_is_poly : Def P w K mg base k "_law_is_poly" ["value"] false mf_law_is_poly) (hm : LawOk 17 m_law) : FnG P w K mg base (k + 1) f fd ["script"] (spLaw K) :=
  fnG_law F sc_law (by decide) hm fun cdv A outer s H G =>
    pss_cons (ps_set (i := 1) G.nd rfl (Or.inr rfl) (pe_callG Fo G.room G.gu mo ko bo (pa_cons (pv 0) pa_nil)))
    (pss_law (sss_cons (ss_set G.nd (SF.toE (sf_lst (sa_cons se_non (sa_cons se_bl (sa_cons se_int (sa_cons se_int (sa_cons (se_neg (SE.toB se_int)) (sa_cons se_int (sa_cons se_str (sa_cons (se_tup sa_nil) (sa_cons (se_tup (sa_cons se_int sa_nil)) (sa_cons (se_tup (sa_cons se_int sa_nil)) (sa_cons (se_tup (sa_cons se_int (sa_cons se_int sa_nil))) (sa_cons (se_tup (sa_cons se_int (sa_cons se_int sa_nil))) (sa_cons (se_tup (sa_cons se_int (sa_cons se_int sa_nil))) (sa_cons (se_tup (sa_cons (se_tup (sa_cons se_int (sa_cons (se_tup (sa_cons se_int (sa_cons se_int sa_nil))) sa_nil))) sa_nil)) (sa_cons (SF.toE (sf_lst sa_nil)) (sa_cons (SD.toE sd_nil) (sa_cons (se_op opd_pow (SE.toB se_int) (SE.toB se_int)) sa_nil))))))))))))))))))))
    (sss_cons (ss_for (w := false) (ws := [3]) PassesOwn.never G.calm (si_range1 T.n_range (sa_cons se_int sa_nil)) (sg_name G.nd) (sss_cons (ss_asg (ws := [4, 5, 6]) (se_tup (sa_cons (se_callDS G D_law_poly (pv 1) (sa_cons se_int sa_nil)) (sa_cons (se_callDS G D_law_poly (pv 1) (sa_cons se_int sa_nil)) (sa_cons (se_callDS G D_law_of (pv 1) (sa_cons (se_name 2) sa_nil)) sa_nil)))) (sg_tup G.calm (sgs_cons (sg_name G.nd) (sgs_cons (sg_name G.nd) (sgs_cons (sg_name G.nd) sgs_nil)))))
    (sss_cons (ss_for (w := false) (ws := [7]) PassesOwn.never G.calm (si_range1 T.n_range (sa_cons se_int sa_nil)) (sg_name G.nd) (sss_one (ss_set G.nd (se_if (st_cmp (opd_eq G.u) (SE.toB (se_callDS G D_law_pick (pv 1) (sa_cons se_int sa_nil))) (SE.toB se_int)) (SF.toE (sf_lst (sa_cons (se_name 6) sa_nil))) (se_tup (sa_cons (se_name 6) sa_nil))))))
    (sss_cons (ss_setF G.nd (sf_lst (sa_cons (se_name 4) (sa_cons (SF.toE (sf_callT cf_list T.n_list (sab_cons (SE.toB (se_name 4)) sab_nil))) (sa_cons (se_cut (SE.toB (se_name 4)) (sp_some se_int) sp_none) (sa_cons (se_cut (SE.toB (se_name 4)) sp_none (sp_some (se_neg (SE.toB se_int)))) (sa_cons (se_rev (SE.toB (se_name 4))) (sa_cons (se_op opd_add (SE.toB (se_name 4)) (SE.toB (se_cut (SE.toB (se_name 4)) (sp_some (se_neg (SE.toB se_int))) sp_none))) (sa_cons (se_name 5) (sa_cons (se_tup sa_nil) (sa_cons se_non (sa_cons (se_name 6) (sa_cons (se_tup (sa_cons (se_name 6) sa_nil)) sa_nil)))))))))))))
    (sss_cons (ss_append (se_callT cd_tuple T.n_tuple (sab_cons (SF.toB (sf_lc (w := false) (own := [("i", 12), ("p", 13), ("q", 14)]) G.calm G.nd (sj_seq (SE.toB (se_name 4))) (blk_c ["script", "source", "odd", "lap", "due", "other", "deep", "turn", "values", "value", "shown", "fault", "i", "p", "q", "c", "look"] (defScope s_law) rfl (by decide +kernel) (by decide +kernel) (by decide +kernel) (by decide +kernel)) (fun _ _ _ _ _ => (sg_tup (G.blk).calm (sgs_cons (sg_name (G.blk).nd) (sgs_cons (sg_tup (G.blk).calm (sgs_cons (sg_name (G.blk).nd) (sgs_cons (sg_name (G.blk).nd) sgs_nil))) sgs_nil)))) (fun _ _ _ _ _ => sts_nil) (fun _ _ _ _ _ => (se_tup (sa_cons (se_name 12) (sa_cons (se_tup (sa_cons (se_op opd_mul (SE.toB se_int) (SE.toB (se_name 13))) (sa_cons (se_op opd_mul (SE.toB se_int) (SE.toB (se_name 14))) sa_nil))) sa_nil)))))) sab_nil)) (pv 8))
    (sss_cons (ss_append (se_callT cd_tuple T.n_tuple (sab_cons (SF.toB (sf_lc (w := false) (own := [("i", 12), ("p", 13), ("q", 14)]) G.calm G.nd (sj_seq (SE.toB (se_name 4))) (blk_c ["script", "source", "odd", "lap", "due", "other", "deep", "turn", "values", "value", "shown", "fault", "i", "p", "q", "c", "look"] (defScope s_law) rfl (by decide +kernel) (by decide +kernel) (by decide +kernel) (by decide +kernel)) (fun _ _ _ _ _ => (sg_tup (G.blk).calm (sgs_cons (sg_name (G.blk).nd) (sgs_cons (sg_tup (G.blk).calm (sgs_cons (sg_name (G.blk).nd) (sgs_cons (sg_name (G.blk).nd) sgs_nil))) sgs_nil)))) (fun _ _ _ _ _ => sts_nil) (fun _ _ _ _ _ => (se_tup (sa_cons (se_name 12) (sa_cons (se_tup (sa_cons (se_op opd_add (SE.toB (se_name 13)) (SE.toB (se_name 14))) (sa_cons (se_name 14) sa_nil))) sa_nil)))))) sab_nil)) (pv 8))
    (sss_cons (ss_setF G.nd (sf_op opf_add (sb_name 8) (SF.toB (sf_lst (sa_cons (se_callT cd_tuple T.n_tuple (sab_cons (SF.toB (sf_lc (w := false) (own := [("i", 12), ("c", 15)]) G.calm G.nd (sj_seq (SE.toB (se_name 4))) (blk_c ["script", "source", "odd", "lap", "due", "other", "deep", "turn", "values", "value", "shown", "fault", "i", "p", "q", "c", "look"] (defScope s_law) rfl (by decide +kernel) (by decide +kernel) (by decide +kernel) (by decide +kernel)) (fun _ _ _ _ _ => (sg_tup (G.blk).calm (sgs_cons (sg_name (G.blk).nd) (sgs_cons (sg_name (G.blk).nd) sgs_nil)))) (fun _ _ _ _ _ => sts_nil) (fun _ _ _ _ _ => (se_tup (sa_cons (se_op opd_add (SE.toB (se_name 12)) (SE.toB se_int)) (sa_cons (se_name 15) sa_nil)))))) sab_nil)) (sa_cons (se_callT cd_tuple T.n_tuple (sab_cons (SF.toB (sf_lc (w := false) (own := [("i", 12), ("c", 15)]) G.calm G.nd (sj_seq (SE.toB (se_name 4))) (blk_c ["script", "source", "odd", "lap", "due", "other", "deep", "turn", "values", "value", "shown", "fault", "i", "p", "q", "c", "look"] (defScope s_law) rfl (by decide +kernel) (by decide +kernel) (by decide +kernel) (by decide +kernel)) (fun _ _ _ _ _ => (sg_tup (G.blk).calm (sgs_cons (sg_name (G.blk).nd) (sgs_cons (sg_name (G.blk).nd) sgs_nil)))) (fun _ _ _ _ _ => sts_nil) (fun _ _ _ _ _ => (se_tup (sa_cons (se_name 12) (sa_cons (SF.toE (sf_callT cf_list T.n_list (sab_cons (SE.toB (se_name 15)) sab_nil))) sa_nil)))))) sab_nil)) (sa_cons (se_tup (sa_cons (se_tup (sa_cons se_int (sa_cons (se_tup (sa_cons se_int (sa_cons se_int sa_nil))) sa_nil))) sa_nil)) sa_nil)))))))
    (sss_cons (ss_setF G.nd (sf_op opf_add (sb_name 8) (SF.toB (sf_lst (sa_cons (se_op opd_add (SE.toB (se_name 4)) (SE.toB (se_tup (sa_cons (se_tup (sa_cons (se_op opd_pow (SE.toB se_int) (SE.toB se_int)) (sa_cons (se_tup (sa_cons se_int (sa_cons se_int sa_nil))) sa_nil))) sa_nil)))) (sa_cons (se_op opd_add (SE.toB (se_name 4)) (SE.toB (se_tup (sa_cons (se_tup (sa_cons se_int (sa_cons (se_tup (sa_cons (se_name 6) (sa_cons se_int sa_nil))) sa_nil))) sa_nil)))) (sa_cons (se_tup (sa_cons (se_tup (sa_cons se_bl (sa_cons (se_tup (sa_cons se_int (sa_cons se_int sa_nil))) sa_nil))) sa_nil)) (sa_cons (se_tup (sa_cons (se_tup (sa_cons se_int (sa_cons se_int sa_nil))) sa_nil)) sa_nil))))))))
    (sss_cons (ss_for (w := false) (ws := [9]) PassesOwn.never G.calm (si_seq (se_op opd_add (SE.toB (se_op opd_add (sb_name 8) (SE.toB (se_name 2)))) (SF.toB (sf_lc (w := false) (own := [("look", 16)]) G.calm G.nd (SI.toJ (si_range1 T.n_range (sa_cons se_int sa_nil))) (blk_c ["script", "source", "odd", "lap", "due", "other", "deep", "turn", "values", "value", "shown", "fault", "i", "p", "q", "c", "look"] (defScope s_law) rfl (by decide +kernel) (by decide +kernel) (by decide +kernel) (by decide +kernel)) (fun _ _ _ _ _ => (sg_name (G.blk).nd)) (fun _ _ _ _ _ => sts_nil) (fun _ _ _ _ _ => (se_callDS (G.blk) D_law_bent (pv 1) (sa_cons (se_name 4) (sa_cons (se_name 2) sa_nil)))))))) (sg_name G.nd) (sss_cons (ss_par G.calm G.nd (sa_cons (se_callE (ce_repr G.gu G.u) T.n_repr (sa_cons (se_name 9) sa_nil)) (sa_cons (se_callD G D_law_fault (sa_cons (se_name 4) (sa_cons (se_name 9) sa_nil))) sa_nil)))
    (sss_cons (ss_if (SW.t (sw_or (st_cmp (opd_ne G.u) (SE.toB (se_callE (ce_repr G.gu G.u) T.n_repr (sa_cons (se_callD G D_judge_poly (sa_cons (se_name 4) (sa_cons (se_name 9) sa_nil))) sa_nil))) (SE.toB (se_callE (ce_repr G.gu G.u) T.n_repr (sa_cons (se_name 11) sa_nil)))) (sw_or1 (st_cmp (opd_ne G.u) (SE.toB (se_callE (ce_repr G.gu G.u) T.n_repr (sa_cons (se_name 9) sa_nil))) (SE.toB (se_name 10)))))) (sss_one (ss_ret se_bl)) sss_nil)
    (sss_one (ss_if (st_cmp (opd_ne G.u) (SE.toB (se_callE (ce_repr G.gu G.u) T.n_repr (sa_cons (SF.toE (sf_lst (sa_cons (se_callD G D_is_poly (sa_cons (se_name 9) sa_nil)) (sa_cons (se_callD G D_is_fraction (sa_cons (se_name 9) sa_nil)) sa_nil)))) sa_nil))) (SE.toB (se_callE (ce_repr G.gu G.u) T.n_repr (sa_cons (SF.toE (sf_lst (sa_cons (se_callD G D_law_is_poly (sa_cons (se_name 9) sa_nil)) (sa_cons (se_callD G D_law_is_fraction (sa_cons (se_name 9) sa_nil)) sa_nil)))) sa_nil)))) (sss_one (ss_ret se_bl)) sss_nil)))))
    (sss_one (ss_if (st_isNot (SE.toB (se_callD G D_judge_poly (sa_cons (se_name 4) (sa_cons (se_name 4) sa_nil))))) (sss_one (ss_ret se_bl)) sss_nil)))))))))))
    (sss_one (ss_ret (se_and (se_isN (SE.toB (se_callD G D_judge_poly (sa_cons (se_tup sa_nil) (sa_cons (se_tup sa_nil) sa_nil))))) (se_one (se_cmp (opd_eq G.u) (SE.toB (se_callD G D_judge_poly (sa_cons (se_tup sa_nil) (sa_cons (se_tup (sa_cons (se_tup (sa_cons se_int (sa_cons (se_tup (sa_cons se_int (sa_cons se_int sa_nil))) sa_nil))) sa_nil)) sa_nil)))) (SE.toB (se_tup (sa_cons se_str (sa_cons se_int (sa_cons (se_tup (sa_cons se_int (sa_cons se_int sa_nil))) sa_nil)))))))))))))
end K32
end

section
set_option Elab.async false
set_option linter.all false
set_option maxRecDepth 100000
set_option maxHeartbeats 4000000
namespace K32
open PySem PySem.Spec DL
def isInt : PyData → Bool
  | .int _ => true
  | _ => false
theorem is_integer_ok (d : PyData) : mf_is_integer [d] = pure (.bool (isInt d)) := by
  cases d <;> rfl
theorem law_is_int_ok (d : PyData) : mf_law_is_int [d] = pure (.bool (isInt d)) := by
  cases d <;> rfl
def isFrac : PyData → Bool
  | .tuple [.int p, .int q] => decide (0 < q) && decide (((Nat.gcd p.natAbs q.natAbs : Nat) : Int) = 1)
  | _ => false
theorem isTup_t (ds : List PyData) : isD "tuple" (.tuple ds) = some true := rfl
theorem lenD_t (ds : List PyData) : lenD [.tuple ds] = some (.int ds.length) := rfl
theorem sz_ok {α : Type} {ds : List α} (h : ds.length ≤ 1000000) : sz ds = some ds := if_pos h
theorem isFrac_len {ds : List PyData} (h : ds.length ≠ 2) : isFrac (.tuple ds) = false := by
  match ds, h with
  | [], _ => rfl
  | [_], _ => simp [isFrac]
  | [_, _], h => exact absurd rfl h
  | _ :: _ :: _ :: _, _ => simp [isFrac]
theorem two_of {ds : List PyData} (h : ds.length = 2) : ∃ x y, ds = [x, y] := by
  match ds, h with
  | [x, y], _ => exact ⟨x, y, rfl⟩
theorem is_fraction_ok (d : PyData) : mf_is_fraction [d] = pure (.bool (isFrac d)) := by
  refine fn_rt ?_
  cases d with
  | tuple ds =>
    by_cases hl : ds.length = 2
    · obtain ⟨x, y, rfl⟩ := two_of hl
      have hall : lcM [x, y] (lcF [.vl (.tuple [x, y]), .no] (gSet 1) mYes (mCall 1 mf_is_integer (mCons (mName 1) mNil)) [1]) = pure [.bool (isInt x), .bool (isInt y)] := lcM_bools (ds := [x, y]) (g := isInt) fun d _ => by
        unfold lcF
        simp only [mSeq, mIfS, mRet, mRetN, mPass, mOrT, mAndT, mNotT, mAsB, mIsi, mName, mOwn, mC, mOp, mOp3, mCl, mCons, mNil, mFrz, mFrzD, mSeqI, mCall, mAndV, mOrV, mNotV, mIfE, mTup, mLst, mSet, mSetF, mSetD, mPar, mUn, mUn', mCut, mP, mNoP, mIsN, mIsNot, mRng, mKeys, mYes, gSet, gTupD, gsCons, gsNil, mFz, mDrop, mAsg, mAppend, ev0, frzAt, wipeE, rdV_vl, rdB_vl, rdB_ol, rdB_od, asB_b, asI_i, seqD_l, seqD_t, lenI1, lenI2, lenI3, lft_some, pure_bind, getE0, getES, List.set_cons_zero, List.set_cons_succ, List.map_cons, List.map_nil, List.cons_append, List.nil_append, List.replicate_succ, List.replicate_zero, List.append_nil, List.length_cons, List.length_nil, if_true, if_false, ite_true, ite_false, Bool.false_eq_true, reduceIte, Bool.not_true, Bool.not_false, Nat.reduceAdd, Nat.reduceSub, List.zip_cons_cons, List.zip_nil_right, List.foldl_cons, List.foldl_nil, is_integer_ok]
      unfold m_is_fraction
      have hsz : sz [x, y] = some [x, y] := rfl
      have hal : allD [.list [.bool (isInt x), .bool (isInt y)]] = some (.bool ([isInt x, isInt y].all id)) := allD_map [isInt x, isInt y]
      have h0 : ixD (.tuple [x, y]) (.int 0) = some x := rfl
      have h1 : ixD (.tuple [x, y]) (.int 1) = some y := rfl
      simp [mSeq, mIfS, mRet, mRetN, mPass, mOrT, mAndT, mNotT, mAsB, mIsi, mName, mOwn, mC, mOp, mOp3, mCl, mCons, mNil, mFrz, mFrzD, mSeqI, mCall, mAndV, mOrV, mNotV, mIfE, mTup, mLst, mSet, mSetF, mSetD, mPar, mUn, mUn', mCut, mP, mNoP, mIsN, mIsNot, mRng, mKeys, mYes, gSet, gTupD, gsCons, gsNil, mFz, mDrop, mAsg, mAppend, ev0, frzAt, wipeE, rdV_vl, rdB_vl, rdB_ol, rdB_od, asB_b, asI_i, seqD_l, seqD_t, lenI1, lenI2, lenI3, lft_some, pure_bind, getE0, getES, List.set_cons_zero, List.set_cons_succ, List.map_cons, List.map_nil, List.cons_append, List.nil_append, List.replicate_succ, List.replicate_zero, List.append_nil, List.length_cons, List.length_nil, if_true, if_false, ite_true, ite_false, Bool.false_eq_true, reduceIte, Bool.not_true, Bool.not_false, Nat.reduceAdd, Nat.reduceSub, List.zip_cons_cons, List.zip_nil_right, List.foldl_cons, List.foldl_nil, isTup_t, lenD_t, neD_int, mLc, hsz, hall, hal]
      cases x <;> cases y <;> simp [isInt, isFrac]
      rename_i p q
      have hg : gtD (.int q) (.int 0) = some (.bool (decide (0 < q))) := rfl
      have hgc : gcdD [.int p, .int q] = some (.int (Nat.gcd p.natAbs q.natAbs : Nat)) := rfl
      simp [mSeq, mIfS, mRet, mRetN, mPass, mOrT, mAndT, mNotT, mAsB, mIsi, mName, mOwn, mC, mOp, mOp3, mCl, mCons, mNil, mFrz, mFrzD, mSeqI, mCall, mAndV, mOrV, mNotV, mIfE, mTup, mLst, mSet, mSetF, mSetD, mPar, mUn, mUn', mCut, mP, mNoP, mIsN, mIsNot, mRng, mKeys, mYes, gSet, gTupD, gsCons, gsNil, mFz, mDrop, mAsg, mAppend, ev0, frzAt, wipeE, rdV_vl, rdB_vl, rdB_ol, rdB_od, asB_b, asI_i, seqD_l, seqD_t, lenI1, lenI2, lenI3, lft_some, pure_bind, getE0, getES, List.set_cons_zero, List.set_cons_succ, List.map_cons, List.map_nil, List.cons_append, List.nil_append, List.replicate_succ, List.replicate_zero, List.append_nil, List.length_cons, List.length_nil, if_true, if_false, ite_true, ite_false, Bool.false_eq_true, reduceIte, Bool.not_true, Bool.not_false, Nat.reduceAdd, Nat.reduceSub, List.zip_cons_cons, List.zip_nil_right, List.foldl_cons, List.foldl_nil, h0, h1, hg, hgc, eqD_int]
      by_cases hq : 0 < q <;> simp [hq]
    · unfold m_is_fraction
      have hl' : ¬ ((ds.length : Int) = 2) := by omega
      simp [mSeq, mIfS, mRet, mRetN, mPass, mOrT, mAndT, mNotT, mAsB, mIsi, mName, mOwn, mC, mOp, mOp3, mCl, mCons, mNil, mFrz, mFrzD, mSeqI, mCall, mAndV, mOrV, mNotV, mIfE, mTup, mLst, mSet, mSetF, mSetD, mPar, mUn, mUn', mCut, mP, mNoP, mIsN, mIsNot, mRng, mKeys, mYes, gSet, gTupD, gsCons, gsNil, mFz, mDrop, mAsg, mAppend, ev0, frzAt, wipeE, rdV_vl, rdB_vl, rdB_ol, rdB_od, asB_b, asI_i, seqD_l, seqD_t, lenI1, lenI2, lenI3, lft_some, pure_bind, getE0, getES, List.set_cons_zero, List.set_cons_succ, List.map_cons, List.map_nil, List.cons_append, List.nil_append, List.replicate_succ, List.replicate_zero, List.append_nil, List.length_cons, List.length_nil, if_true, if_false, ite_true, ite_false, Bool.false_eq_true, reduceIte, Bool.not_true, Bool.not_false, Nat.reduceAdd, Nat.reduceSub, List.zip_cons_cons, List.zip_nil_right, List.foldl_cons, List.foldl_nil, isTup_t, lenD_t, neD_int, hl', isFrac_len hl]
  | _ => rfl

/-! ### Euclid -/
abbrev eC : Ev → M Bool := mAsB (mOp gtD (mName 3) (mC (.int 0)))
abbrev eB : Ev → M Fl := mPar [2, 3] (mCons (mName 3) (mCons (mOp modD (mCl intD (mCons (mName 2) (mNil))) (mName 3)) (mNil)))
theorem gtD_int (i j : Int) : gtD (.int i) (.int j) = some (.bool (decide (j < i))) := rfl
theorem intD_int (i : Int) : intD [.int i] = some (.int i) := rfl
theorem modD_pos {i j : Int} (h : 0 < j) : modD (.int i) (.int j) = some (.int (i % j)) := if_pos h
theorem absD_int (i : Int) : absD [.int i] = some (.int (if i < 0 then -i else i)) := rfl
theorem euclid_ok (P Q : Sl) : ∀ (n a b : Nat), b < n → whileM n eC eB [P, Q, .vl (.int a), .vl (.int b)] = pure (.nx [P, Q, .vl (.int (Nat.gcd a b : Nat)), .vl (.int 0)])
  | 0, _, _, h => absurd h (Nat.not_lt_zero _)
  | n + 1, a, b, h => by
    unfold whileM
    by_cases hb : b = 0
    · subst hb
      simp [mSeq, mIfS, mRet, mRetN, mPass, mOrT, mAndT, mNotT, mAsB, mIsi, mName, mOwn, mC, mOp, mOp3, mCl, mCons, mNil, mFrz, mFrzD, mSeqI, mCall, mAndV, mOrV, mNotV, mIfE, mTup, mLst, mSet, mSetF, mSetD, mPar, mUn, mUn', mCut, mP, mNoP, mIsN, mIsNot, mRng, mKeys, mYes, gSet, gTupD, gsCons, gsNil, mFz, mDrop, mAsg, mAppend, ev0, frzAt, wipeE, rdV_vl, rdB_vl, rdB_ol, rdB_od, asB_b, asI_i, seqD_l, seqD_t, lenI1, lenI2, lenI3, lft_some, pure_bind, getE0, getES, List.set_cons_zero, List.set_cons_succ, List.map_cons, List.map_nil, List.cons_append, List.nil_append, List.replicate_succ, List.replicate_zero, List.append_nil, List.length_cons, List.length_nil, if_true, if_false, ite_true, ite_false, Bool.false_eq_true, reduceIte, Bool.not_true, Bool.not_false, Nat.reduceAdd, Nat.reduceSub, List.zip_cons_cons, List.zip_nil_right, List.foldl_cons, List.foldl_nil, gtD_int]
    · have h0 : (0 : Int) < (b : Int) := by omega
      have ih := euclid_ok P Q n b (a % b) (by have := Nat.mod_lt a (Nat.pos_of_ne_zero hb); omega)
      have e : ((a : Int) % (b : Int)) = ((a % b : Nat) : Int) := rfl
      simp only [eC, eB, mSeq, mIfS, mRet, mRetN, mPass, mOrT, mAndT, mNotT, mAsB, mIsi, mName, mOwn, mC, mOp, mOp3, mCl, mCons, mNil, mFrz, mFrzD, mSeqI, mCall, mAndV, mOrV, mNotV, mIfE, mTup, mLst, mSet, mSetF, mSetD, mPar, mUn, mUn', mCut, mP, mNoP, mIsN, mIsNot, mRng, mKeys, mYes, gSet, gTupD, gsCons, gsNil, mFz, mDrop, mAsg, mAppend, ev0, frzAt, wipeE, rdV_vl, rdB_vl, rdB_ol, rdB_od, asB_b, asI_i, seqD_l, seqD_t, lenI1, lenI2, lenI3, lft_some, pure_bind, getE0, getES, List.set_cons_zero, List.set_cons_succ, List.map_cons, List.map_nil, List.cons_append, List.nil_append, List.replicate_succ, List.replicate_zero, List.append_nil, List.length_cons, List.length_nil, if_true, if_false, ite_true, ite_false, Bool.false_eq_true, reduceIte, Bool.not_true, Bool.not_false, Nat.reduceAdd, Nat.reduceSub, List.zip_cons_cons, List.zip_nil_right, List.foldl_cons, List.foldl_nil, gtD_int, intD_int, modD_pos h0, decide_eq_true h0, e] at ih ⊢
      rw [ih]
      congr 4
      rw [Nat.gcd_comm a b, Nat.gcd_rec b a, Nat.gcd_comm]

def fuel : Nat := 1000000000000000000000000000000000000000000000000000000000000000000000000000000000000000000000000000000000000000000000000000000000000000000000000000000000000000000000000000000000000000000000000000000000000000000000000000000000000000000000000000000000000000000000000000000000000000000000000000000000000
theorem fuel_lt {n : Nat} (h : n < 2 ^ 900) : n < fuel := Nat.lt_trans h (by decide +kernel)
theorem log2_small {g : Nat} (h : g < 2 ^ 900) : g.log2 < 9000 := by
  by_cases h0 : g = 0
  · subst h0; decide
  · exact Nat.lt_trans ((Nat.log2_lt h0).mpr h) (by decide)
theorem gcd_pos {p q : Int} (h : 0 < q) : 0 < Nat.gcd p.natAbs q.natAbs := Nat.gcd_pos_of_pos_right _ (by omega)
theorem gcd_le {p q : Int} (h : 0 < q) : Nat.gcd p.natAbs q.natAbs ≤ q.natAbs := Nat.le_of_dvd (by omega) (Nat.gcd_dvd_right _ _)
def fracD (p q : Int) : PyData := .tuple [.int (p / (Nat.gcd p.natAbs q.natAbs : Nat)), .int (q / (Nat.gcd p.natAbs q.natAbs : Nat))]
theorem iabs_nat (p : Int) : (if p < 0 then -p else p) = ((p.natAbs : Nat) : Int) := by split <;> omega
theorem law_fraction_ok {p q : Int} (h : 0 < q) (hq : q.natAbs < 2 ^ 900) : mf_law_fraction [.int p, .int q] = pure (fracD p q) := by
  have hn : q.natAbs < 1000000000000000000000000000000000000000000000000000000000000000000000000000000000000000000000000000000000000000000000000000000000000000000000000000000000000000000000000000000000000000000000000000000000000000000000000000000000000000000000000000000000000000000000000000000000000000000000000000000000000 := fuel_lt hq
  have hg := gcd_pos (p := p) h
  have hg2 := gcd_le (p := p) h
  have hf : ∀ i : Int, fdivD (.int i) (.int (Nat.gcd p.natAbs q.natAbs : Nat)) = some (.int (i / (Nat.gcd p.natAbs q.natAbs : Nat))) := fun i => if_pos ⟨Int.natCast_pos.mpr hg, log2_small (by rw [Int.natAbs_natCast]; exact Nat.lt_of_le_of_lt hg2 hq)⟩
  have hw := euclid_ok (.vl (.int p)) (.vl (.int q)) 1000000000000000000000000000000000000000000000000000000000000000000000000000000000000000000000000000000000000000000000000000000000000000000000000000000000000000000000000000000000000000000000000000000000000000000000000000000000000000000000000000000000000000000000000000000000000000000000000000000000000 p.natAbs q.natAbs hn
  refine fn_rt ?_
  unfold m_law_fraction
  simp only [eC, eB] at hw
  rw [mSeq]
  simp only [mSeq, mIfS, mRet, mRetN, mPass, mOrT, mAndT, mNotT, mAsB, mIsi, mName, mOwn, mC, mOp, mOp3, mCl, mCons, mNil, mFrz, mFrzD, mSeqI, mCall, mAndV, mOrV, mNotV, mIfE, mTup, mLst, mSet, mSetF, mSetD, mPar, mUn, mUn', mCut, mP, mNoP, mIsN, mIsNot, mRng, mKeys, mYes, gSet, gTupD, gsCons, gsNil, mFz, mDrop, mAsg, mAppend, ev0, frzAt, wipeE, rdV_vl, rdB_vl, rdB_ol, rdB_od, asB_b, asI_i, seqD_l, seqD_t, lenI1, lenI2, lenI3, lft_some, pure_bind, getE0, getES, List.set_cons_zero, List.set_cons_succ, List.map_cons, List.map_nil, List.cons_append, List.nil_append, List.replicate_succ, List.replicate_zero, List.append_nil, List.length_cons, List.length_nil, if_true, if_false, ite_true, ite_false, Bool.false_eq_true, reduceIte, Bool.not_true, Bool.not_false, Nat.reduceAdd, Nat.reduceSub, List.zip_cons_cons, List.zip_nil_right, List.foldl_cons, List.foldl_nil, absD_int, iabs_nat] at hw ⊢
  rw [hw]
  simp only [mSeq, mIfS, mRet, mRetN, mPass, mOrT, mAndT, mNotT, mAsB, mIsi, mName, mOwn, mC, mOp, mOp3, mCl, mCons, mNil, mFrz, mFrzD, mSeqI, mCall, mAndV, mOrV, mNotV, mIfE, mTup, mLst, mSet, mSetF, mSetD, mPar, mUn, mUn', mCut, mP, mNoP, mIsN, mIsNot, mRng, mKeys, mYes, gSet, gTupD, gsCons, gsNil, mFz, mDrop, mAsg, mAppend, ev0, frzAt, wipeE, rdV_vl, rdB_vl, rdB_ol, rdB_od, asB_b, asI_i, seqD_l, seqD_t, lenI1, lenI2, lenI3, lft_some, pure_bind, getE0, getES, List.set_cons_zero, List.set_cons_succ, List.map_cons, List.map_nil, List.cons_append, List.nil_append, List.replicate_succ, List.replicate_zero, List.append_nil, List.length_cons, List.length_nil, if_true, if_false, ite_true, ite_false, Bool.false_eq_true, reduceIte, Bool.not_true, Bool.not_false, Nat.reduceAdd, Nat.reduceSub, List.zip_cons_cons, List.zip_nil_right, List.foldl_cons, List.foldl_nil, gtD_int, decide_eq_true h, hf]
  rfl

theorem eqF_tup2 (a b c d : Int) : eqF (.tuple [.int a, .int b]) (.tuple [.int c, .int d]) = some (decide (a = c) && decide (b = d)) := by
  unfold eqF
  rw [if_pos ⟨rfl, rfl, .inl (by simp [PyData.depth, PyData.depthAll])⟩]
  simp [PyData.eqv, PyData.eqvAll]
  by_cases h : a = c <;> by_cases h2 : b = d <;> simp [h, h2]
theorem eqD_tup2 (a b c d : Int) : eqD (.tuple [.int a, .int b]) (.tuple [.int c, .int d]) = some (.bool (decide (a = c) && decide (b = d))) := by unfold eqD; rw [eqF_tup2]; rfl
theorem neD_tup2 (a b c d : Int) : neD (.tuple [.int a, .int b]) (.tuple [.int c, .int d]) = some (.bool (!(decide (a = c) && decide (b = d)))) := by unfold neD; rw [eqF_tup2]; rfl
theorem frac_same {p q : Int} (h : 0 < q) : (decide (p / (Nat.gcd p.natAbs q.natAbs : Nat) = p) && decide (q / (Nat.gcd p.natAbs q.natAbs : Nat) = q)) = decide (((Nat.gcd p.natAbs q.natAbs : Nat) : Int) = 1) := by
  have hg := gcd_pos (p := p) h
  generalize Nat.gcd p.natAbs q.natAbs = g at hg ⊢
  by_cases e : (g : Int) = 1
  · simp [e]
  · have hlt : q / (g : Int) < q := Int.ediv_lt_self_of_pos_of_ne_one h e
    have : ¬ (q / (g : Int) = q) := by omega
    simp [e, this]
/-- a number below, if the value is a pair of numbers -/
def Small2 (d : PyData) : Prop := ∀ p q : Int, d = .tuple [.int p, .int q] → q.natAbs < 2 ^ 900
theorem law_is_fraction_ok (d : PyData) (hs : Small2 d) : mf_law_is_fraction [d] = pure (.bool (isFrac d)) := by
  refine fn_rt ?_
  cases d with
  | tuple ds =>
    by_cases hl : ds.length = 2
    · obtain ⟨x, y, rfl⟩ := two_of hl
      unfold m_law_is_fraction
      have h0 : ixD (.tuple [x, y]) (.int 0) = some x := rfl
      have h1 : ixD (.tuple [x, y]) (.int 1) = some y := rfl
      simp [mSeq, mIfS, mRet, mRetN, mPass, mOrT, mAndT, mNotT, mAsB, mIsi, mName, mOwn, mC, mOp, mOp3, mCl, mCons, mNil, mFrz, mFrzD, mSeqI, mCall, mAndV, mOrV, mNotV, mIfE, mTup, mLst, mSet, mSetF, mSetD, mPar, mUn, mUn', mCut, mP, mNoP, mIsN, mIsNot, mRng, mKeys, mYes, gSet, gTupD, gsCons, gsNil, mFz, mDrop, mAsg, mAppend, ev0, frzAt, wipeE, rdV_vl, rdB_vl, rdB_ol, rdB_od, asB_b, asI_i, seqD_l, seqD_t, lenI1, lenI2, lenI3, lft_some, pure_bind, getE0, getES, List.set_cons_zero, List.set_cons_succ, List.map_cons, List.map_nil, List.cons_append, List.nil_append, List.replicate_succ, List.replicate_zero, List.append_nil, List.length_cons, List.length_nil, if_true, if_false, ite_true, ite_false, Bool.false_eq_true, reduceIte, Bool.not_true, Bool.not_false, Nat.reduceAdd, Nat.reduceSub, List.zip_cons_cons, List.zip_nil_right, List.foldl_cons, List.foldl_nil, isTup_t, lenD_t, neD_int, h0, h1, law_is_int_ok]
      cases x <;> cases y <;> simp [isInt, isFrac]
      rename_i p q
      have hg : gtD (.int q) (.int 0) = some (.bool (decide (0 < q))) := rfl
      have h0 : ixD (.tuple [.int p, .int q]) (.int 0) = some (.int p) := rfl
      have h1 : ixD (.tuple [.int p, .int q]) (.int 1) = some (.int q) := rfl
      simp [mSeq, mIfS, mRet, mRetN, mPass, mOrT, mAndT, mNotT, mAsB, mIsi, mName, mOwn, mC, mOp, mOp3, mCl, mCons, mNil, mFrz, mFrzD, mSeqI, mCall, mAndV, mOrV, mNotV, mIfE, mTup, mLst, mSet, mSetF, mSetD, mPar, mUn, mUn', mCut, mP, mNoP, mIsN, mIsNot, mRng, mKeys, mYes, gSet, gTupD, gsCons, gsNil, mFz, mDrop, mAsg, mAppend, ev0, frzAt, wipeE, rdV_vl, rdB_vl, rdB_ol, rdB_od, asB_b, asI_i, seqD_l, seqD_t, lenI1, lenI2, lenI3, lft_some, pure_bind, getE0, getES, List.set_cons_zero, List.set_cons_succ, List.map_cons, List.map_nil, List.cons_append, List.nil_append, List.replicate_succ, List.replicate_zero, List.append_nil, List.length_cons, List.length_nil, if_true, if_false, ite_true, ite_false, Bool.false_eq_true, reduceIte, Bool.not_true, Bool.not_false, Nat.reduceAdd, Nat.reduceSub, List.zip_cons_cons, List.zip_nil_right, List.foldl_cons, List.foldl_nil, h0, h1, hg]
      by_cases hq : 0 < q
      · simp [hq, law_fraction_ok hq (hs p q rfl), fracD, eqD_tup2, lft_some]
        have := frac_same (p := p) hq
        rw [this]
      · simp [hq]
    · unfold m_law_is_fraction
      have hl' : ¬ ((ds.length : Int) = 2) := by omega
      simp [mSeq, mIfS, mRet, mRetN, mPass, mOrT, mAndT, mNotT, mAsB, mIsi, mName, mOwn, mC, mOp, mOp3, mCl, mCons, mNil, mFrz, mFrzD, mSeqI, mCall, mAndV, mOrV, mNotV, mIfE, mTup, mLst, mSet, mSetF, mSetD, mPar, mUn, mUn', mCut, mP, mNoP, mIsN, mIsNot, mRng, mKeys, mYes, gSet, gTupD, gsCons, gsNil, mFz, mDrop, mAsg, mAppend, ev0, frzAt, wipeE, rdV_vl, rdB_vl, rdB_ol, rdB_od, asB_b, asI_i, seqD_l, seqD_t, lenI1, lenI2, lenI3, lft_some, pure_bind, getE0, getES, List.set_cons_zero, List.set_cons_succ, List.map_cons, List.map_nil, List.cons_append, List.nil_append, List.replicate_succ, List.replicate_zero, List.append_nil, List.length_cons, List.length_nil, if_true, if_false, ite_true, ite_false, Bool.false_eq_true, reduceIte, Bool.not_true, Bool.not_false, Nat.reduceAdd, Nat.reduceSub, List.zip_cons_cons, List.zip_nil_right, List.foldl_cons, List.foldl_nil, isTup_t, lenD_t, neD_int, hl', isFrac_len hl]
  | _ => rfl

/-! ### polynomials -/
def isPair : PyData → Bool
  | .tuple [_, _] => true
  | _ => false
theorem isPair_len (es : List PyData) : isPair (.tuple es) = decide ((es.length : Int) = 2) := by
  match es with
  | [] => rfl
  | [_] => rfl
  | [_, _] => rfl
  | _ :: _ :: _ :: r => simp [isPair]; omega
def nz : PyData → Bool
  | .tuple [.int p, .int q] => !(decide (p = 0) && decide (q = 1))
  | _ => true
def okE (i c : PyData) : Bool := isInt i && isFrac c && nz c
abbrev pr (e : PyData × PyData) : PyData := .tuple [e.1, e.2]
theorem pairs_ex : ∀ {ds : List PyData}, ds.all isPair = true → ∃ L : List (PyData × PyData), ds = L.map pr
  | [], _ => ⟨[], rfl⟩
  | d :: ds, h => by
    rw [List.all_cons, Bool.and_eq_true] at h
    obtain ⟨L, rfl⟩ := pairs_ex h.2
    match d, h.1 with
    | .tuple [i, c], _ => exact ⟨(i, c) :: L, rfl⟩
theorem frac_ex {c : PyData} (h : isFrac c = true) : ∃ p q, c = .tuple [.int p, .int q] := by
  unfold isFrac at h
  split at h
  · exact ⟨_, _, rfl⟩
  · cases h
theorem int_ex {c : PyData} (h : isInt c = true) : ∃ p, c = .int p := by
  unfold isInt at h
  split at h
  · exact ⟨_, rfl⟩
  · cases h
def keyI : PyData × PyData → Int
  | (.int i, _) => i
  | _ => 0
def rise (ks : List Int) : Bool := (List.zipWith (fun a b => decide (a < b)) ks (ks.drop 1)).all id
def isPoly : PyData → Bool
  | .tuple ds => ds.all isPair && (ds.all fun d => match d with | .tuple [i, c] => okE i c | _ => true) && rise (ds.map fun d => match d with | .tuple [.int i, _] => i | _ => 0)
  | _ => false
theorem zw {α β γ : Type} (f : α → β → γ) : ∀ (xs : List α) (ys : List β), List.zipWith f xs ys = (xs.zip ys).map fun p => f p.1 p.2
  | [], _ => rfl
  | _ :: _, [] => rfl
  | x :: xs, y :: ys => by rw [List.zipWith_cons_cons, List.zip_cons_cons, List.map_cons, zw f xs ys]
theorem zw2 {α β γ : Type} (g : α → β) (f : β → β → γ) (L : List α) : List.zipWith f (L.map g) ((L.map g).drop 1) = (L.zip (L.drop 1)).map fun p => f (g p.1) (g p.2) := by
  rw [← List.map_drop, List.zipWith_map, zw]
theorem mem_zip1 {α : Type} {L : List α} {p : α × α} (h : p ∈ L.zip (L.drop 1)) : p.1 ∈ L ∧ p.2 ∈ L := by
  obtain ⟨a, b⟩ := p
  exact ⟨(List.of_mem_zip h).1, List.mem_of_mem_drop (List.of_mem_zip h).2⟩
theorem isPoly_pr (L : List (PyData × PyData)) : isPoly (.tuple (L.map pr)) = ((L.map fun e => okE e.1 e.2).all id && rise (L.map keyI)) := by
  show ((L.map pr).all isPair && (L.map pr).all _ && rise ((L.map pr).map _)) = _
  simp only [List.all_map, List.map_map]
  have e1 : L.all (isPair ∘ pr) = true := List.all_eq_true.mpr fun e _ => rfl
  rw [e1, Bool.true_and]
  congr 2
  refine List.map_congr_left fun e _ => ?_
  obtain ⟨i, c⟩ := e
  cases i <;> rfl
theorem isPoly_np {ds : List PyData} (h : ds.all isPair = false) : isPoly (.tuple ds) = false := by
  show (ds.all isPair && _ && _) = false
  rw [h]; rfl
theorem is_poly_ok (d : PyData) (hz : ∀ ds, d = .tuple ds → ds.length ≤ 1000000) : mf_is_poly [d] = pure (.bool (isPoly d)) := by
  refine fn_rt ?_
  cases d with
  | tuple ds =>
    have hsz := sz_ok (hz ds rfl)
    have h1 : ∀ ρ : Ev, ρ = [.vl (.tuple ds), .no, .no, .no, .no, .no] → lcM ds (lcF ρ (gSet 1) mYes (mAndV (mIsi "tuple" (mName 1)) (mOp eqD (mCl lenD (mCons (mName 1) (mNil))) (mC (.int 2)))) [1]) = pure ((ds.map isPair).map PyData.bool) := by
      rintro ρ rfl
      refine lcM_bools fun d _ => ?_
      unfold lcF
      cases d with
      | tuple es => simp [mSeq, mIfS, mRet, mRetN, mPass, mOrT, mAndT, mNotT, mAsB, mIsi, mName, mOwn, mC, mOp, mOp3, mCl, mCons, mNil, mFrz, mFrzD, mSeqI, mCall, mAndV, mOrV, mNotV, mIfE, mTup, mLst, mSet, mSetF, mSetD, mPar, mUn, mUn', mCut, mP, mNoP, mIsN, mIsNot, mRng, mKeys, mYes, gSet, gTupD, gsCons, gsNil, mFz, mDrop, mAsg, mAppend, ev0, frzAt, wipeE, rdV_vl, rdB_vl, rdB_ol, rdB_od, asB_b, asI_i, seqD_l, seqD_t, lenI1, lenI2, lenI3, lft_some, pure_bind, getE0, getES, List.set_cons_zero, List.set_cons_succ, List.map_cons, List.map_nil, List.cons_append, List.nil_append, List.replicate_succ, List.replicate_zero, List.append_nil, List.length_cons, List.length_nil, if_true, if_false, ite_true, ite_false, Bool.false_eq_true, reduceIte, Bool.not_true, Bool.not_false, Nat.reduceAdd, Nat.reduceSub, List.zip_cons_cons, List.zip_nil_right, List.foldl_cons, List.foldl_nil, isTup_t, lenD_t, eqD_int, isPair_len]
      | _ => rfl
    unfold m_is_poly
    have h1' := h1 _ rfl
    rw [mSeq]
    cases ha : ds.all isPair with
    | false => simp [mSeq, mIfS, mRet, mRetN, mPass, mOrT, mAndT, mNotT, mAsB, mIsi, mName, mOwn, mC, mOp, mOp3, mCl, mCons, mNil, mFrz, mFrzD, mSeqI, mCall, mAndV, mOrV, mNotV, mIfE, mTup, mLst, mSet, mSetF, mSetD, mPar, mUn, mUn', mCut, mP, mNoP, mIsN, mIsNot, mRng, mKeys, mYes, gSet, gTupD, gsCons, gsNil, mFz, mDrop, mAsg, mAppend, ev0, frzAt, wipeE, rdV_vl, rdB_vl, rdB_ol, rdB_od, asB_b, asI_i, seqD_l, seqD_t, lenI1, lenI2, lenI3, lft_some, pure_bind, getE0, getES, List.set_cons_zero, List.set_cons_succ, List.map_cons, List.map_nil, List.cons_append, List.nil_append, List.replicate_succ, List.replicate_zero, List.append_nil, List.length_cons, List.length_nil, if_true, if_false, ite_true, ite_false, Bool.false_eq_true, reduceIte, Bool.not_true, Bool.not_false, Nat.reduceAdd, Nat.reduceSub, List.zip_cons_cons, List.zip_nil_right, List.foldl_cons, List.foldl_nil, isTup_t, mLc, hsz, h1', allD_mapc, ha, isPoly_np ha]
    | true =>
      obtain ⟨L, rfl⟩ := pairs_ex ha
      have h2 : ∀ ρ : Ev, ρ = [.vl (.tuple (L.map pr)), .no, .no, .no, .no, .no] → lcM (L.map pr) (lcF ρ (gTupD 2 (gsCons (gSet 2) (gsCons (gSet 3) (gsNil)))) (mYes) (mAndV (mCall 1 mf_is_integer (mCons (mName 2) (mNil))) (mAndV (mCall 1 mf_is_fraction (mCons (mName 3) (mNil))) (mOp neD (mName 3) (mC c_ZERO)))) [2, 3]) = pure ((L.map fun e => okE e.1 e.2).map PyData.bool) := by
        rintro ρ rfl
        refine (lcM_bools (g := fun d => match d with | .tuple [i, c] => okE i c | _ => true) fun d hd => ?_).trans ?_
        · obtain ⟨⟨i, c⟩, _, rfl⟩ := List.mem_map.mp hd
          unfold lcF
          simp [mSeq, mIfS, mRet, mRetN, mPass, mOrT, mAndT, mNotT, mAsB, mIsi, mName, mOwn, mC, mOp, mOp3, mCl, mCons, mNil, mFrz, mFrzD, mSeqI, mCall, mAndV, mOrV, mNotV, mIfE, mTup, mLst, mSet, mSetF, mSetD, mPar, mUn, mUn', mCut, mP, mNoP, mIsN, mIsNot, mRng, mKeys, mYes, gSet, gTupD, gsCons, gsNil, mFz, mDrop, mAsg, mAppend, ev0, frzAt, wipeE, rdV_vl, rdB_vl, rdB_ol, rdB_od, asB_b, asI_i, seqD_l, seqD_t, lenI1, lenI2, lenI3, lft_some, pure_bind, getE0, getES, List.set_cons_zero, List.set_cons_succ, List.map_cons, List.map_nil, List.cons_append, List.nil_append, List.replicate_succ, List.replicate_zero, List.append_nil, List.length_cons, List.length_nil, if_true, if_false, ite_true, ite_false, Bool.false_eq_true, reduceIte, Bool.not_true, Bool.not_false, Nat.reduceAdd, Nat.reduceSub, List.zip_cons_cons, List.zip_nil_right, List.foldl_cons, List.foldl_nil, is_integer_ok, is_fraction_ok, okE]
          cases hi : isInt i with
          | false => simp
          | true =>
            cases hc : isFrac c with
            | false => simp [asB_b, lft_some]
            | true =>
              obtain ⟨p, q, rfl⟩ := frac_ex hc
              have hn : neD (.tuple [.int p, .int q]) c_ZERO = some (.bool (nz (.tuple [.int p, .int q]))) := neD_tup2 p q 0 1
              simp [asB_b, lft_some, hn]
        · rw [List.map_map, List.map_map, List.map_map]; rfl
      have h2' := h2 _ rfl
      have hsz2 : sz (L.map pr) = some (L.map pr) := hsz
      have hcut : cutD (.tuple (L.map pr)) (some 1) none = some (.tuple ((L.map pr).drop 1)) := by
        show some (PyData.tuple (cutP _ _ _)) = _
        rw [cutP_from1]
      have hall : ((L.map pr).map isPair).all id = true := by rw [List.all_map]; exact ha
      have hz3 : zipD [.tuple (L.map pr), .tuple ((L.map pr).drop 1)] = some (List.zipWith (fun x y => .tuple [x, y]) (L.map pr) ((L.map pr).drop 1)) := rfl
      have hsz3 : sz (List.zipWith (fun x y => PyData.tuple [x, y]) (L.map pr) ((L.map pr).drop 1)) = some (List.zipWith (fun x y => PyData.tuple [x, y]) (L.map pr) ((L.map pr).drop 1)) := sz_ok (by
        have := hz _ rfl
        rw [List.length_zipWith]; omega)
      cases hb : (L.map fun e => okE e.1 e.2).all id with
      | false => simp [-List.map_map, -List.all_map, -List.drop_one, -List.map_zipWith, mSeq, mIfS, mRet, mRetN, mPass, mOrT, mAndT, mNotT, mAsB, mIsi, mName, mOwn, mC, mOp, mOp3, mCl, mCons, mNil, mFrz, mFrzD, mSeqI, mCall, mAndV, mOrV, mNotV, mIfE, mTup, mLst, mSet, mSetF, mSetD, mPar, mUn, mUn', mCut, mP, mNoP, mIsN, mIsNot, mRng, mKeys, mYes, gSet, gTupD, gsCons, gsNil, mFz, mDrop, mAsg, mAppend, ev0, frzAt, wipeE, rdV_vl, rdB_vl, rdB_ol, rdB_od, asB_b, asI_i, seqD_l, seqD_t, lenI1, lenI2, lenI3, lft_some, pure_bind, getE0, getES, List.set_cons_zero, List.set_cons_succ, List.map_cons, List.map_nil, List.cons_append, List.nil_append, List.replicate_succ, List.replicate_zero, List.append_nil, List.length_cons, List.length_nil, if_true, if_false, ite_true, ite_false, Bool.false_eq_true, reduceIte, Bool.not_true, Bool.not_false, Nat.reduceAdd, Nat.reduceSub, List.zip_cons_cons, List.zip_nil_right, List.foldl_cons, List.foldl_nil, isTup_t, mLc, hsz2, h1', allD_map, hall, h2', hcut, hb, isPoly_pr]
      | true =>
        have h3 : ∀ ρ : Ev, ρ = [.vl (.tuple (L.map pr)), .no, .no, .no, .no, .no] → lcM (List.zipWith (fun x y => PyData.tuple [x, y]) (L.map pr) ((L.map pr).drop 1)) (lcF ρ (gTupD 2 (gsCons (gSet 4) (gsCons (gSet 5) (gsNil)))) (mYes) (mOp ltD (mOp ixD (mName 4) (mC (.int 0))) (mOp ixD (mName 5) (mC (.int 0)))) [4, 5]) = pure ((List.zipWith (fun a b => decide (a < b)) (L.map keyI) ((L.map keyI).drop 1)).map PyData.bool) := by
          rintro ρ rfl
          rw [zw2, zw2]
          refine (lcM_bools (g := fun d => match d with | .tuple [.tuple [.int i, _], .tuple [.int j, _]] => decide (i < j) | _ => true) fun d hd => ?_).trans ?_
          · obtain ⟨⟨⟨i, c⟩, ⟨j, e⟩⟩, hm, rfl⟩ := List.mem_map.mp hd
            obtain ⟨m1, m2⟩ := mem_zip1 hm
            have k : ∀ x ∈ L, isInt x.1 = true := fun x hx => by
              have z := List.all_eq_true.mp hb _ (List.mem_map.mpr ⟨x, hx, rfl⟩)
              unfold okE at z
              simp at z
              exact z.1.1
            obtain ⟨a, ea⟩ := int_ex (k _ m1)
            obtain ⟨b, eb⟩ := int_ex (k _ m2)
            cases (show i = .int a from ea)
            cases (show j = .int b from eb)
            have x0 : ixD (.tuple [.int a, c]) (.int 0) = some (.int a) := rfl
            have y0 : ixD (.tuple [.int b, e]) (.int 0) = some (.int b) := rfl
            have lt : ltD (.int a) (.int b) = some (.bool (decide (a < b))) := rfl
            unfold lcF
            simp [mSeq, mIfS, mRet, mRetN, mPass, mOrT, mAndT, mNotT, mAsB, mIsi, mName, mOwn, mC, mOp, mOp3, mCl, mCons, mNil, mFrz, mFrzD, mSeqI, mCall, mAndV, mOrV, mNotV, mIfE, mTup, mLst, mSet, mSetF, mSetD, mPar, mUn, mUn', mCut, mP, mNoP, mIsN, mIsNot, mRng, mKeys, mYes, gSet, gTupD, gsCons, gsNil, mFz, mDrop, mAsg, mAppend, ev0, frzAt, wipeE, rdV_vl, rdB_vl, rdB_ol, rdB_od, asB_b, asI_i, seqD_l, seqD_t, lenI1, lenI2, lenI3, lft_some, pure_bind, getE0, getES, List.set_cons_zero, List.set_cons_succ, List.map_cons, List.map_nil, List.cons_append, List.nil_append, List.replicate_succ, List.replicate_zero, List.append_nil, List.length_cons, List.length_nil, if_true, if_false, ite_true, ite_false, Bool.false_eq_true, reduceIte, Bool.not_true, Bool.not_false, Nat.reduceAdd, Nat.reduceSub, List.zip_cons_cons, List.zip_nil_right, List.foldl_cons, List.foldl_nil, x0, y0, lt]
          · refine congrArg (fun z => (pure (List.map PyData.bool z) : M (List PyData))) ?_
            rw [List.map_map]
            refine List.map_congr_left fun p hp => ?_
            obtain ⟨m1, m2⟩ := mem_zip1 hp
            have k : ∀ x ∈ L, isInt x.1 = true := fun x hx => by
              have z := List.all_eq_true.mp hb _ (List.mem_map.mpr ⟨x, hx, rfl⟩)
              unfold okE at z
              simp at z
              exact z.1.1
            obtain ⟨⟨i, c⟩, ⟨j, e⟩⟩ := p
            obtain ⟨a, ea⟩ := int_ex (k _ m1)
            obtain ⟨b, eb⟩ := int_ex (k _ m2)
            cases (show i = .int a from ea)
            cases (show j = .int b from eb)
            rfl
        have h3' := h3 _ rfl
        simp [-List.map_map, -List.all_map, -List.drop_one, -List.map_zipWith, mSeq, mIfS, mRet, mRetN, mPass, mOrT, mAndT, mNotT, mAsB, mIsi, mName, mOwn, mC, mOp, mOp3, mCl, mCons, mNil, mFrz, mFrzD, mSeqI, mCall, mAndV, mOrV, mNotV, mIfE, mTup, mLst, mSet, mSetF, mSetD, mPar, mUn, mUn', mCut, mP, mNoP, mIsN, mIsNot, mRng, mKeys, mYes, gSet, gTupD, gsCons, gsNil, mFz, mDrop, mAsg, mAppend, ev0, frzAt, wipeE, rdV_vl, rdB_vl, rdB_ol, rdB_od, asB_b, asI_i, seqD_l, seqD_t, lenI1, lenI2, lenI3, lft_some, pure_bind, getE0, getES, List.set_cons_zero, List.set_cons_succ, List.map_cons, List.map_nil, List.cons_append, List.nil_append, List.replicate_succ, List.replicate_zero, List.append_nil, List.length_cons, List.length_nil, if_true, if_false, ite_true, ite_false, Bool.false_eq_true, reduceIte, Bool.not_true, Bool.not_false, Nat.reduceAdd, Nat.reduceSub, List.zip_cons_cons, List.zip_nil_right, List.foldl_cons, List.foldl_nil, isTup_t, mLc, hsz2, h1', allD_map, hall, h2', hcut, hb, isPoly_pr, hz3, hsz3, h3']
        rfl
  | _ => rfl

theorem rise_iff {ks : List Int} : rise ks = true ↔ ∀ k a b, ks[k]? = some a → ks[k + 1]? = some b → a < b := by
  unfold rise
  rw [List.all_eq_true]
  constructor
  · intro h k a b h1 h2
    have : (List.zipWith (fun a b => decide (a < b)) ks (ks.drop 1))[k]? = some (decide (a < b)) := by
      rw [List.getElem?_zipWith, h1, List.getElem?_drop, Nat.add_comm 1 k, h2]
    exact of_decide_eq_true (h _ (List.mem_of_getElem? this))
  · intro h x hx
    obtain ⟨k, hk⟩ := List.mem_iff_getElem?.mp hx
    rw [List.getElem?_zipWith, List.getElem?_drop, Nat.add_comm 1 k] at hk
    cases h1 : ks[k]? with
    | none => rw [h1] at hk; simp at hk
    | some a =>
      cases h2 : ks[k + 1]? with
      | none => rw [h1, h2] at hk; simp at hk
      | some b => rw [h1, h2] at hk; simp at hk; rw [← hk]; simpa using h k a b h1 h2
theorem law_is_poly_ok (d : PyData) (hz : ∀ ds, d = .tuple ds → ds.length ≤ 1000000 ∧ ∀ i c, .tuple [i, c] ∈ ds → Small2 c) : mf_law_is_poly [d] = pure (.bool (isPoly d)) := by
  refine fn_rt ?_
  cases d with
  | tuple ds =>
    obtain ⟨hz, hs⟩ := hz ds rfl
    have hsz := sz_ok hz
    have sz0 : sz ([] : List PyData) = some [] := rfl
    have h1 : ∀ ρ : Ev, ρ = [.vl (.tuple ds), .no, .no, .no] → lcM ds (lcF ρ (gSet 1) (mOrT (mNotT (mAsB (mIsi "tuple" (mName 1)))) (mAsB (mOp neD (mCl lenD (mCons (mName 1) (mNil))) (mC (.int 2))))) (mName 1) [1]) = pure ((ds.filter fun d => !isPair d).map id) := by
      rintro ρ rfl
      refine lcM_filter fun d _ => ?_
      unfold lcF
      cases d with
      | tuple es =>
        rw [isPair_len]
        by_cases he : (es.length : Int) = 2 <;> simp [mSeq, mIfS, mRet, mRetN, mPass, mOrT, mAndT, mNotT, mAsB, mIsi, mName, mOwn, mC, mOp, mOp3, mCl, mCons, mNil, mFrz, mFrzD, mSeqI, mCall, mAndV, mOrV, mNotV, mIfE, mTup, mLst, mSet, mSetF, mSetD, mPar, mUn, mUn', mCut, mP, mNoP, mIsN, mIsNot, mRng, mKeys, mYes, gSet, gTupD, gsCons, gsNil, mFz, mDrop, mAsg, mAppend, ev0, frzAt, wipeE, rdV_vl, rdB_vl, rdB_ol, rdB_od, asB_b, asI_i, seqD_l, seqD_t, lenI1, lenI2, lenI3, lft_some, pure_bind, getE0, getES, List.set_cons_zero, List.set_cons_succ, List.map_cons, List.map_nil, List.cons_append, List.nil_append, List.replicate_succ, List.replicate_zero, List.append_nil, List.length_cons, List.length_nil, if_true, if_false, ite_true, ite_false, Bool.false_eq_true, reduceIte, Bool.not_true, Bool.not_false, Nat.reduceAdd, Nat.reduceSub, List.zip_cons_cons, List.zip_nil_right, List.foldl_cons, List.foldl_nil, isTup_t, lenD_t, neD_int, he]
      | _ => rfl
    have h1' := h1 _ rfl
    rw [List.map_id] at h1'
    unfold m_law_is_poly
    rw [mSeq]
    cases ha : ds.all isPair with
    | false =>
      have hf : (ds.filter fun d => !isPair d).isEmpty = false := by
        cases hx : (ds.filter fun d => !isPair d) with
        | nil =>
          exfalso
          have : ds.all isPair = true := List.all_eq_true.mpr fun x hx2 => by
            cases hp : isPair x with
            | true => rfl
            | false =>
              have : x ∈ ds.filter fun d => !isPair d := List.mem_filter.mpr ⟨hx2, by rw [hp]; rfl⟩
              rw [hx] at this; cases this
          rw [ha] at this; cases this
        | cons _ _ => rfl
      generalize (ds.filter fun d => !isPair d) = xs at h1' hf
      simp [mSeq, mIfS, mRet, mRetN, mPass, mOrT, mAndT, mNotT, mAsB, mIsi, mName, mOwn, mC, mOp, mOp3, mCl, mCons, mNil, mFrz, mFrzD, mSeqI, mCall, mAndV, mOrV, mNotV, mIfE, mTup, mLst, mSet, mSetF, mSetD, mPar, mUn, mUn', mCut, mP, mNoP, mIsN, mIsNot, mRng, mKeys, mYes, gSet, gTupD, gsCons, gsNil, mFz, mDrop, mAsg, mAppend, ev0, frzAt, wipeE, rdV_vl, rdB_vl, rdB_ol, rdB_od, asB_b, asI_i, seqD_l, seqD_t, lenI1, lenI2, lenI3, lft_some, pure_bind, getE0, getES, List.set_cons_zero, List.set_cons_succ, List.map_cons, List.map_nil, List.cons_append, List.nil_append, List.replicate_succ, List.replicate_zero, List.append_nil, List.length_cons, List.length_nil, if_true, if_false, ite_true, ite_false, Bool.false_eq_true, reduceIte, Bool.not_true, Bool.not_false, Nat.reduceAdd, Nat.reduceSub, List.zip_cons_cons, List.zip_nil_right, List.foldl_cons, List.foldl_nil, isTup_t, mLc, hsz, sz0, h1', neD_nil, hf, isPoly_np ha]
    | true =>
      have hf : (ds.filter fun d => !isPair d) = [] := List.filter_eq_nil_iff.mpr fun x hx => by rw [List.all_eq_true.mp ha x hx]; decide
      rw [hf] at h1'
      obtain ⟨L, rfl⟩ := pairs_ex ha
      have hok : ∀ e ∈ L, mf_law_is_fraction [e.2] = pure (.bool (isFrac e.2)) := fun e he => law_is_fraction_ok e.2 (hs e.1 e.2 (List.mem_map.mpr ⟨e, he, rfl⟩))
      have h2 : ∀ ρ : Ev, ρ = [.vl (.tuple (L.map pr)), .no, .no, .no] → lcM (L.map pr) (lcF ρ (gTupD 2 (gsCons (gSet 2) (gsCons (gSet 3) (gsNil)))) (mOrT (mNotT (mAsB (mCall 1 mf_law_is_int (mCons (mName 2) (mNil))))) (mOrT (mNotT (mAsB (mCall 1 mf_law_is_fraction (mCons (mName 3) (mNil))))) (mAsB (mOp eqD (mName 3) (mTup (mCons (mC (.int 0)) (mCons (mC (.int 1)) (mNil)))))))) (mName 2) [2, 3]) = pure (((L.map pr).filter fun d => match d with | .tuple [i, c] => !okE i c | _ => false).map fun d => match d with | .tuple [i, _] => i | x => x) := by
        rintro ρ rfl
        refine lcM_filter fun d hd => ?_
        obtain ⟨⟨i, c⟩, he, rfl⟩ := List.mem_map.mp hd
        have hk := hok _ he
        unfold lcF
        simp only [] at hk
        cases hi : isInt i with
        | false => simp [mSeq, mIfS, mRet, mRetN, mPass, mOrT, mAndT, mNotT, mAsB, mIsi, mName, mOwn, mC, mOp, mOp3, mCl, mCons, mNil, mFrz, mFrzD, mSeqI, mCall, mAndV, mOrV, mNotV, mIfE, mTup, mLst, mSet, mSetF, mSetD, mPar, mUn, mUn', mCut, mP, mNoP, mIsN, mIsNot, mRng, mKeys, mYes, gSet, gTupD, gsCons, gsNil, mFz, mDrop, mAsg, mAppend, ev0, frzAt, wipeE, rdV_vl, rdB_vl, rdB_ol, rdB_od, asB_b, asI_i, seqD_l, seqD_t, lenI1, lenI2, lenI3, lft_some, pure_bind, getE0, getES, List.set_cons_zero, List.set_cons_succ, List.map_cons, List.map_nil, List.cons_append, List.nil_append, List.replicate_succ, List.replicate_zero, List.append_nil, List.length_cons, List.length_nil, if_true, if_false, ite_true, ite_false, Bool.false_eq_true, reduceIte, Bool.not_true, Bool.not_false, Nat.reduceAdd, Nat.reduceSub, List.zip_cons_cons, List.zip_nil_right, List.foldl_cons, List.foldl_nil, law_is_int_ok, hi, okE]
        | true =>
          cases hc : isFrac c with
          | false => simp [mSeq, mIfS, mRet, mRetN, mPass, mOrT, mAndT, mNotT, mAsB, mIsi, mName, mOwn, mC, mOp, mOp3, mCl, mCons, mNil, mFrz, mFrzD, mSeqI, mCall, mAndV, mOrV, mNotV, mIfE, mTup, mLst, mSet, mSetF, mSetD, mPar, mUn, mUn', mCut, mP, mNoP, mIsN, mIsNot, mRng, mKeys, mYes, gSet, gTupD, gsCons, gsNil, mFz, mDrop, mAsg, mAppend, ev0, frzAt, wipeE, rdV_vl, rdB_vl, rdB_ol, rdB_od, asB_b, asI_i, seqD_l, seqD_t, lenI1, lenI2, lenI3, lft_some, pure_bind, getE0, getES, List.set_cons_zero, List.set_cons_succ, List.map_cons, List.map_nil, List.cons_append, List.nil_append, List.replicate_succ, List.replicate_zero, List.append_nil, List.length_cons, List.length_nil, if_true, if_false, ite_true, ite_false, Bool.false_eq_true, reduceIte, Bool.not_true, Bool.not_false, Nat.reduceAdd, Nat.reduceSub, List.zip_cons_cons, List.zip_nil_right, List.foldl_cons, List.foldl_nil, law_is_int_ok, hi, hk, hc, okE]
          | true =>
            obtain ⟨p, q, rfl⟩ := frac_ex hc
            have s2 : sz [PyData.int 0, .int 1] = some [.int 0, .int 1] := rfl
            have hn : eqD (.tuple [.int p, .int q]) (.tuple [.int 0, .int 1]) = some (.bool (!nz (.tuple [.int p, .int q]))) := by rw [eqD_tup2]; simp [nz]
            cases hz : nz (.tuple [.int p, .int q]) <;> simp [mSeq, mIfS, mRet, mRetN, mPass, mOrT, mAndT, mNotT, mAsB, mIsi, mName, mOwn, mC, mOp, mOp3, mCl, mCons, mNil, mFrz, mFrzD, mSeqI, mCall, mAndV, mOrV, mNotV, mIfE, mTup, mLst, mSet, mSetF, mSetD, mPar, mUn, mUn', mCut, mP, mNoP, mIsN, mIsNot, mRng, mKeys, mYes, gSet, gTupD, gsCons, gsNil, mFz, mDrop, mAsg, mAppend, ev0, frzAt, wipeE, rdV_vl, rdB_vl, rdB_ol, rdB_od, asB_b, asI_i, seqD_l, seqD_t, lenI1, lenI2, lenI3, lft_some, pure_bind, getE0, getES, List.set_cons_zero, List.set_cons_succ, List.map_cons, List.map_nil, List.cons_append, List.nil_append, List.replicate_succ, List.replicate_zero, List.append_nil, List.length_cons, List.length_nil, if_true, if_false, ite_true, ite_false, Bool.false_eq_true, reduceIte, Bool.not_true, Bool.not_false, Nat.reduceAdd, Nat.reduceSub, List.zip_cons_cons, List.zip_nil_right, List.foldl_cons, List.foldl_nil, law_is_int_ok, hi, hk, hc, okE, s2, hn, hz]
      have h2' := h2 _ rfl
      have e2 : (((L.map pr).filter fun d => match d with | .tuple [i, c] => !okE i c | _ => false).map fun d => match d with | .tuple [i, _] => i | x => x).isEmpty = (L.map fun e => okE e.1 e.2).all id := by
        rw [Bool.eq_iff_iff, List.isEmpty_iff, List.map_eq_nil_iff, List.filter_eq_nil_iff, List.all_eq_true]
        constructor
        · intro h x hx
          obtain ⟨e, he, rfl⟩ := List.mem_map.mp hx
          have := h (pr e) (List.mem_map.mpr ⟨e, he, rfl⟩)
          simpa using this
        · intro h x hx
          obtain ⟨e, he, rfl⟩ := List.mem_map.mp hx
          have := h _ (List.mem_map.mpr ⟨e, he, rfl⟩)
          simp at this ⊢
          exact this
      generalize (((L.map pr).filter fun d => match d with | .tuple [i, c] => !okE i c | _ => false).map fun d => match d with | .tuple [i, _] => i | x => x) = xs2 at h2' e2
      have hsz2 : sz (L.map pr) = some (L.map pr) := hsz
      have n0 : neD (.list []) (.list []) = some (.bool false) := by rw [neD_nil]; rfl
      cases hb : (L.map fun e => okE e.1 e.2).all id with
      | false =>
        rw [hb] at e2
        have n2 : neD (.list xs2) (.list []) = some (.bool true) := by rw [neD_nil, e2]; rfl
        simp [-List.map_map, -List.all_map, -List.drop_one, -List.map_zipWith, mSeq, mIfS, mRet, mRetN, mPass, mOrT, mAndT, mNotT, mAsB, mIsi, mName, mOwn, mC, mOp, mOp3, mCl, mCons, mNil, mFrz, mFrzD, mSeqI, mCall, mAndV, mOrV, mNotV, mIfE, mTup, mLst, mSet, mSetF, mSetD, mPar, mUn, mUn', mCut, mP, mNoP, mIsN, mIsNot, mRng, mKeys, mYes, gSet, gTupD, gsCons, gsNil, mFz, mDrop, mAsg, mAppend, ev0, frzAt, wipeE, rdV_vl, rdB_vl, rdB_ol, rdB_od, asB_b, asI_i, seqD_l, seqD_t, lenI1, lenI2, lenI3, lft_some, pure_bind, getE0, getES, List.set_cons_zero, List.set_cons_succ, List.map_cons, List.map_nil, List.cons_append, List.nil_append, List.replicate_succ, List.replicate_zero, List.append_nil, List.length_cons, List.length_nil, if_true, if_false, ite_true, ite_false, Bool.false_eq_true, reduceIte, Bool.not_true, Bool.not_false, Nat.reduceAdd, Nat.reduceSub, List.zip_cons_cons, List.zip_nil_right, List.foldl_cons, List.foldl_nil, isTup_t, mLc, hsz2, sz0, h1', n0, h2', n2, isPoly_pr, hb]
      | true =>
        rw [hb] at e2
        have k : ∀ x ∈ L, isInt x.1 = true := fun x hx => by
          have z := List.all_eq_true.mp hb _ (List.mem_map.mpr ⟨x, hx, rfl⟩)
          unfold okE at z
          simp at z
          exact z.1.1
        have hr : rng2D [.int 1, .int ((L.map pr).length)] = some (rngD 1 (((L.map pr).length : Int) - 1).toNat) := rng2D_ok (by omega) (by omega) (by omega) (by omega)
        have hsz3 : sz (rngD 1 (((L.map pr).length : Int) - 1).toNat) = some (rngD 1 (((L.map pr).length : Int) - 1).toNat) := sz_ok (by unfold rngD; rw [List.length_map, List.length_range]; omega)
        have h3 : ∀ ρ : Ev, ρ = [.vl (.tuple (L.map pr)), .no, .no, .no] → lcM (rngD 1 (((L.map pr).length : Int) - 1).toNat) (lcF ρ (gSet 2) (mAsB (mOp geD (mOp ixD (mOp ixD (mName 0) (mOp subD (mName 2) (mC (.int 1)))) (mC (.int 0))) (mOp ixD (mOp ixD (mName 0) (mName 2)) (mC (.int 0))))) (mName 2) [2]) = pure (((rngD 1 (((L.map pr).length : Int) - 1).toNat).filter fun d => match d with | .int z => decide (((L.map keyI)[z.toNat]?).getD 0 ≤ ((L.map keyI)[z.toNat - 1]?).getD 0) | _ => false).map id) := by
          rintro ρ rfl
          refine lcM_filter fun d hd => ?_
          obtain ⟨j, hj, rfl⟩ := List.mem_map.mp hd
          have hj' : j + 1 < L.length := by
            have := List.mem_range.mp hj
            rw [List.length_map] at this
            omega
          have g1 : L[j + 1]? = some L[j + 1] := List.getElem?_eq_getElem hj'
          have g0 : L[j]? = some L[j] := List.getElem?_eq_getElem (by omega)
          obtain ⟨a, ea⟩ := int_ex (k _ (List.mem_of_getElem? g0))
          obtain ⟨b, eb⟩ := int_ex (k _ (List.mem_of_getElem? g1))
          have x1 : ixD (.tuple (L.map pr)) (.int (1 + (j : Nat))) = some (pr L[j + 1]) := by
            rw [show (1 + ((j : Nat) : Int)) = ((j + 1 : Nat) : Int) by omega]
            exact L2.atI_nat (by rw [List.getElem?_map, g1]; rfl)
          have x0 : ixD (.tuple (L.map pr)) (.int (1 + (j : Nat) - 1)) = some (pr L[j]) := by
            rw [show (1 + ((j : Nat) : Int) - 1) = ((j : Nat) : Int) by omega]
            exact L2.atI_nat (by rw [List.getElem?_map, g0]; rfl)
          have y1 : ixD (pr L[j + 1]) (.int 0) = some (.int b) := by
            show some L[j + 1].1 = _
            rw [eb]
          have y0 : ixD (pr L[j]) (.int 0) = some (.int a) := by
            show some L[j].1 = _
            rw [ea]
          have ge : geD (.int a) (.int b) = some (.bool (decide (b ≤ a))) := rfl
          have sb : subD (.int (1 + (j : Nat))) (.int 1) = some (.int (1 + (j : Nat) - 1)) := rfl
          have k1 : keyI L[j + 1] = b := by unfold keyI; rw [show L[j + 1] = (L[j + 1].1, L[j + 1].2) from rfl, eb]
          have k0 : keyI L[j] = a := by unfold keyI; rw [show L[j] = (L[j].1, L[j].2) from rfl, ea]
          have t1 : (1 + ((j : Nat) : Int)).toNat = j + 1 := by omega
          have f1 : ((L.map keyI)[j + 1]?).getD 0 = b := by rw [List.getElem?_map, g1]; exact k1
          have f0 : ((L.map keyI)[j]?).getD 0 = a := by rw [List.getElem?_map, g0]; exact k0
          unfold lcF
          simp only [mSeq, mIfS, mRet, mRetN, mPass, mOrT, mAndT, mNotT, mAsB, mIsi, mName, mOwn, mC, mOp, mOp3, mCl, mCons, mNil, mFrz, mFrzD, mSeqI, mCall, mAndV, mOrV, mNotV, mIfE, mTup, mLst, mSet, mSetF, mSetD, mPar, mUn, mUn', mCut, mP, mNoP, mIsN, mIsNot, mRng, mKeys, mYes, gSet, gTupD, gsCons, gsNil, mFz, mDrop, mAsg, mAppend, ev0, frzAt, wipeE, rdV_vl, rdB_vl, rdB_ol, rdB_od, asB_b, asI_i, seqD_l, seqD_t, lenI1, lenI2, lenI3, lft_some, pure_bind, getE0, getES, List.set_cons_zero, List.set_cons_succ, List.map_cons, List.map_nil, List.cons_append, List.nil_append, List.replicate_succ, List.replicate_zero, List.append_nil, List.length_cons, List.length_nil, if_true, if_false, ite_true, ite_false, Bool.false_eq_true, reduceIte, Bool.not_true, Bool.not_false, Nat.reduceAdd, Nat.reduceSub, List.zip_cons_cons, List.zip_nil_right, List.foldl_cons, List.foldl_nil, x1, x0, y1, y0, ge, sb, t1, f1, Nat.add_sub_cancel, f0]
          by_cases hab : b ≤ a <;> simp [hab]
        have h3' := h3 _ rfl
        rw [List.map_id] at h3'
        have e3 : ((rngD 1 (((L.map pr).length : Int) - 1).toNat).filter fun d => match d with | .int z => decide (((L.map keyI)[z.toNat]?).getD 0 ≤ ((L.map keyI)[z.toNat - 1]?).getD 0) | _ => false).isEmpty = rise (L.map keyI) := by
          rw [Bool.eq_iff_iff, List.isEmpty_iff, List.filter_eq_nil_iff, rise_iff]
          constructor
          · intro h j a b h1 h2
            have hj : j + 1 < L.length := by
              have := (List.getElem?_eq_some_iff.mp h2).1
              rwa [List.length_map] at this
            have := h (.int (1 + (j : Nat))) (List.mem_map.mpr ⟨j, List.mem_range.mpr (by rw [List.length_map]; omega), rfl⟩)
            have t1 : (1 + ((j : Nat) : Int)).toNat = j + 1 := by omega
            simp only [t1, Nat.add_sub_cancel, h1, h2, Option.getD_some, decide_eq_true_eq] at this
            omega
          · intro h x hx
            obtain ⟨j, hj, rfl⟩ := List.mem_map.mp hx
            have hj' : j + 1 < L.length := by
              have := List.mem_range.mp hj
              rw [List.length_map] at this
              omega
            have t1 : (1 + ((j : Nat) : Int)).toNat = j + 1 := by omega
            obtain ⟨b, g1⟩ : ∃ b, (L.map keyI)[j + 1]? = some b := ⟨_, List.getElem?_eq_getElem (by rw [List.length_map]; exact hj')⟩
            obtain ⟨a, g0⟩ : ∃ a, (L.map keyI)[j]? = some a := ⟨_, List.getElem?_eq_getElem (by rw [List.length_map]; omega)⟩
            have := h j _ _ g0 g1
            simp only [t1, Nat.add_sub_cancel, g1, g0, Option.getD_some, decide_eq_true_eq]
            omega
        generalize ((rngD 1 (((L.map pr).length : Int) - 1).toNat).filter fun d => match d with | .int z => decide (((L.map keyI)[z.toNat]?).getD 0 ≤ ((L.map keyI)[z.toNat - 1]?).getD 0) | _ => false) = xs3 at h3' e3
        have n2 : neD (.list xs2) (.list []) = some (.bool false) := by rw [neD_nil, e2]; rfl
        have n3 : eqD (.list xs3) (.list []) = some (.bool (rise (L.map keyI))) := by rw [eqD_nil, e3]
        generalize hR : rngD 1 (((L.map pr).length : Int) - 1).toNat = R at h3' hr hsz3
        simp [-List.map_map, -List.length_map, -List.all_map, -List.drop_one, -List.map_zipWith, mSeq, mIfS, mRet, mRetN, mPass, mOrT, mAndT, mNotT, mAsB, mIsi, mName, mOwn, mC, mOp, mOp3, mCl, mCons, mNil, mFrz, mFrzD, mSeqI, mCall, mAndV, mOrV, mNotV, mIfE, mTup, mLst, mSet, mSetF, mSetD, mPar, mUn, mUn', mCut, mP, mNoP, mIsN, mIsNot, mRng, mKeys, mYes, gSet, gTupD, gsCons, gsNil, mFz, mDrop, mAsg, mAppend, ev0, frzAt, wipeE, rdV_vl, rdB_vl, rdB_ol, rdB_od, asB_b, asI_i, seqD_l, seqD_t, lenI1, lenI2, lenI3, lft_some, pure_bind, getE0, getES, List.set_cons_zero, List.set_cons_succ, List.map_cons, List.map_nil, List.cons_append, List.nil_append, List.replicate_succ, List.replicate_zero, List.append_nil, List.length_cons, List.length_nil, if_true, if_false, ite_true, ite_false, Bool.false_eq_true, reduceIte, Bool.not_true, Bool.not_false, Nat.reduceAdd, Nat.reduceSub, List.zip_cons_cons, List.zip_nil_right, List.foldl_cons, List.foldl_nil, isTup_t, mLc, hsz2, sz0, h1', n0, h2', n2, isPoly_pr, hb, lenD_t, hr, hsz3, h3', n3]
  | _ => rfl
end K32
end

section
set_option Elab.async false
set_option linter.all false
set_option maxRecDepth 100000
set_option maxHeartbeats 4000000
namespace K32
open PySem PySem.Spec PyProof.Rows L2 DL
abbrev pk (e : Int × PyData) : PyData := .tuple [.int e.1, e.2]
theorem rise_cons (a b : Int) (r : List Int) : rise (a :: b :: r) = (decide (a < b) && rise (b :: r)) := rfl
theorem rise_pw : ∀ {ks : List Int}, rise ks = true → ks.Pairwise (· < ·)
  | [], _ => .nil
  | [_], _ => by simp
  | a :: b :: r, h => by
    rw [rise_cons, Bool.and_eq_true] at h
    have ih := rise_pw h.2
    have hab := of_decide_eq_true h.1
    refine List.pairwise_cons.mpr ⟨fun x hx => ?_, ih⟩
    rcases List.mem_cons.mp hx with rfl | hx
    · exact hab
    · have := (List.pairwise_cons.mp ih).1 x hx
      omega
theorem rise_nodup {ks : List Int} (h : rise ks = true) : ks.Nodup := (rise_pw h).imp fun h => by omega
theorem poly_ex {d : PyData} (h : isPoly d = true) : ∃ V : List (Int × PyData), d = .tuple (V.map pk) ∧ (∀ e ∈ V, isFrac e.2 = true) ∧ (V.map (·.1)).Nodup := by
  cases d with
  | tuple ds =>
    have ha : ds.all isPair = true := by
      cases ha : ds.all isPair with
      | true => rfl
      | false => rw [isPoly_np ha] at h; cases h
    obtain ⟨L, rfl⟩ := pairs_ex ha
    rw [isPoly_pr, Bool.and_eq_true] at h
    have k : ∀ x ∈ L, isInt x.1 = true ∧ isFrac x.2 = true := fun x hx => by
      have z := List.all_eq_true.mp h.1 _ (List.mem_map.mpr ⟨x, hx, rfl⟩)
      unfold okE at z
      simp at z
      exact z.1
    refine ⟨L.map fun e => (keyI e, e.2), ?_, ?_, ?_⟩
    · rw [List.map_map]
      congr 1
      refine List.map_congr_left fun e he => ?_
      obtain ⟨i, c⟩ := e
      obtain ⟨a, ea⟩ := int_ex (k _ he).1
      cases (show i = .int a from ea)
      rfl
    · intro e he
      obtain ⟨x, hx, rfl⟩ := List.mem_map.mp he
      exact (k x hx).2
    · rw [List.map_map]
      exact rise_nodup h.2
  | _ => cases h
def gv (D : List (Int × PyData)) (i : Int) : PyData := (dlook (dd D) (.inl i)).getD c_ZERO
theorem gv_ex {D : List (Int × PyData)} (h : ∀ e ∈ D, isFrac e.2 = true) (i : Int) : ∃ p q, gv D i = .tuple [.int p, .int q] ∧ (gv D i = c_ZERO ∨ ∃ e ∈ D, gv D i = e.2) := by
  unfold gv
  cases hl : dlook (dd D) (.inl i) with
  | none => exact ⟨0, 1, rfl, .inl rfl⟩
  | some v =>
    obtain ⟨e, he, rfl⟩ := dlook_mem hl
    obtain ⟨p, q, hp⟩ := frac_ex (h e he)
    exact ⟨p, q, hp, .inr ⟨e, he, rfl⟩⟩
def dif (D V : List (Int × PyData)) (i : Int) : Bool := match gv V i, gv D i with
  | .tuple [.int a, .int b], .tuple [.int c, .int d] => !(decide (a = c) && decide (b = d))
  | _, _ => false
theorem dif_ok {D V : List (Int × PyData)} (hD : ∀ e ∈ D, isFrac e.2 = true) (hV : ∀ e ∈ V, isFrac e.2 = true) (i : Int) : neD (gv V i) (gv D i) = some (.bool (dif D V i)) := by
  obtain ⟨a, b, e1, _⟩ := gv_ex hV i
  obtain ⟨c, d, e2, _⟩ := gv_ex hD i
  unfold dif
  rw [e1, e2, neD_tup2]
def resD (D : List (Int × PyData)) : List Int → PyData
  | [] => .none
  | i :: _ => .tuple [.str "power", .int i, gv D i]
theorem get_ok (D : List (Int × PyData)) (i : Int) : dget2D (.dict (dd D)) (.int i) c_ZERO = some (gv D i) := rfl
theorem dictL_t {V : List (Int × PyData)} (h : (V.map (·.1)).Nodup) : dictL [.tuple (V.map pk)] = some (dd V) := by
  show (prsOf (V.map pk)).map (fun ps => dmerge [] ps) = _
  rw [prsOf_pk]
  exact congrArg some (dmerge_fresh V [] h)
theorem dictL_l {V : List (Int × PyData)} (h : (V.map (·.1)).Nodup) : dictL [.list (V.map pk)] = some (dd V) := by
  show (prsOf (V.map pk)).map (fun ps => dmerge [] ps) = _
  rw [prsOf_pk]
  exact congrArg some (dmerge_fresh V [] h)
theorem mrg_ok {V D X : List (Int × PyData)} (hV : (V.map (·.1)).Nodup) (hl : V.length + D.length ≤ 1000000) (hX : dmerge (dd V) (dks D) = dd X) : mrgD (.dict (dd V)) (.dict (dd D)) = some (dd X) := by
  show (if (dd V).length + (dd D).length ≤ 1000000 then some (dmerge (dmerge [] (kvOf (dd V))) (kvOf (dd D))) else none) = _
  rw [if_pos (by rw [List.length_map, List.length_map]; exact hl), kvOf_dd, kvOf_dd, show dmerge [] (dks V) = dd V from dmerge_fresh V [] hV, hX]
theorem dictL_app {V D X : List (Int × PyData)} (hV : (V.map (·.1)).Nodup) (hX : dmerge (dd V) (dks D) = dd X) : dictL [.list (V.map pk ++ D.map pk)] = some (dd X) := by
  show (prsOf (V.map pk ++ D.map pk)).map (fun ps => dmerge [] ps) = _
  rw [← List.map_append, prsOf_pk]
  show some (dmerge [] (dks (V ++ D))) = _
  have e : dmerge [] (dks (V ++ D)) = dmerge (dmerge [] (dks V)) (dks D) := by
    unfold dmerge
    rw [← List.foldl_append, ← List.map_append]
  rw [e, show dmerge [] (dks V) = dd V from dmerge_fresh V [] hV, hX]
end K32
end

section
set_option Elab.async false
set_option linter.all false
set_option maxRecDepth 100000
set_option maxHeartbeats 4000000
namespace K32
open PySem PySem.Spec PyProof.Rows L2 DL
theorem lcM_ints {f : PyData → M (Option PyData)} {c : Int → Bool} {ks : List Int} (h : ∀ i ∈ ks, f (.int i) = pure (if c i = true then some (.int i) else none)) : lcM (ks.map PyData.int) f = pure ((ks.filter c).map PyData.int) := by
  rw [lcM_filter (c := fun d => match d with | .int i => c i | _ => false) (h := id) fun d hd => ?_]
  · rw [List.map_id, List.filter_map]; rfl
  · obtain ⟨i, hi, rfl⟩ := List.mem_map.mp hd
    exact h i hi
theorem keysL_dd (X : List (Int × PyData)) : keysL (.dict (dd X)) = some ((X.map (·.1)).map PyData.int) := by
  show some ((dd X).map (·.1)) = _
  rw [List.map_map, List.map_map]; rfl
theorem sortedIL_ok (ws : List Int) : sortedIL [.list (ws.map PyData.int)] = some ((sortI ws).map PyData.int) := by
  show (intsOf (ws.map PyData.int)).map _ = _
  rw [intsOf_ints]; rfl
theorem sortedDL_ok {X : List (Int × PyData)} (h : X.length < 64) : sortedDL [.dict (dd X)] = some ((sortI (X.map (·.1))).map PyData.int) := by
  show (if (dd X).length < 64 then (keysI (dd X)).map fun ns => (sortI ns).map PyData.int else none) = _
  rw [if_pos (by rw [List.length_map]; exact h)]
  have e : keysI (dd X) = some (X.map (·.1)) := by
    unfold keysI
    rw [show (dd X).map (·.1) = (X.map (·.1)).map PyData.int by rw [List.map_map, List.map_map]; rfl, intsOf_ints]
  rw [e]; rfl
theorem sz0 : sz ([] : List PyData) = some [] := rfl
section
variable {D V X : List (Int × PyData)} (hD : ∀ e ∈ D, isFrac e.2 = true) (hV : ∀ e ∈ V, isFrac e.2 = true) (nD : (D.map (·.1)).Nodup) (nV : (V.map (·.1)).Nodup) (hp : isPoly (.tuple (V.map pk)) = true) (hl : V.length + D.length < 64) (hX : dmerge (dd V) (dks D) = dd X) (lX : X.length ≤ V.length + D.length)
include hD hV nD nV hp hl hX lX
theorem judge_res : mf_judge_poly [.tuple (D.map pk), .tuple (V.map pk)] = pure (resD D (sortI ((X.map (·.1)).filter (dif D V)))) := by
  refine fn_rt ?_
  have hp' : mf_is_poly [.tuple (V.map pk)] = pure (.bool true) := by
    rw [is_poly_ok _ fun ds e => by cases e; rw [List.length_map]; omega, hp]
  have d1 := dictL_t nV
  have d2 := dictL_t nD
  have m1 := mrg_ok nV (by omega) hX
  have h1 : ∀ ρ : Ev, ρ = [.vl (.tuple (D.map pk)), .vl (.tuple (V.map pk)), .vl (.dict (dd V)), .vl (.dict (dd D)), .no, .no] → lcM ((X.map (·.1)).map PyData.int) (lcF ρ (gSet 5) (mAsB (mOp neD (mOp3 dget2D (mName 2) (mName 5) (mC c_ZERO)) (mOp3 dget2D (mName 3) (mName 5) (mC c_ZERO)))) (mName 5) [5]) = pure (((X.map (·.1)).filter (dif D V)).map PyData.int) := by
    rintro ρ rfl
    refine lcM_ints fun i _ => ?_
    unfold lcF
    have g1 := get_ok V i
    have g2 := get_ok D i
    have nn := dif_ok hD hV i
    simp only [mSeq, mIfS, mRet, mRetN, mPass, mOrT, mAndT, mNotT, mAsB, mIsi, mName, mOwn, mC, mOp, mOp3, mCl, mCons, mNil, mFrz, mFrzD, mSeqI, mCall, mAndV, mOrV, mNotV, mIfE, mTup, mLst, mSet, mSetF, mSetD, mPar, mUn, mUn', mCut, mP, mNoP, mIsN, mIsNot, mRng, mKeys, mYes, gSet, gTupD, gsCons, gsNil, mFz, mDrop, mAsg, mAppend, ev0, frzAt, wipeE, rdV_vl, rdB_vl, rdB_ol, rdB_od, asB_b, asI_i, seqD_l, seqD_t, lenI1, lenI2, lenI3, lft_some, pure_bind, getE0, getES, List.set_cons_zero, List.set_cons_succ, List.map_cons, List.map_nil, List.cons_append, List.nil_append, List.replicate_succ, List.replicate_zero, List.append_nil, List.length_cons, List.length_nil, if_true, if_false, ite_true, ite_false, Bool.false_eq_true, reduceIte, Bool.not_true, Bool.not_false, Nat.reduceAdd, Nat.reduceSub, List.zip_cons_cons, List.zip_nil_right, List.foldl_cons, List.foldl_nil, g1, g2, nn]
    cases dif D V i <;> simp
  have h1' := h1 _ rfl
  have hsz : sz ((X.map (·.1)).map PyData.int) = some ((X.map (·.1)).map PyData.int) := sz_ok (by rw [List.length_map, List.length_map]; omega)
  have hk := keysL_dd X
  have hget : ∀ i, dget2D (.dict (dd D)) (.int i) c_ZERO = some (gv D i) := get_ok D
  have s2 : ∀ a b : PyData, sz [a, b] = some [a, b] := fun _ _ => rfl
  have s3 : ∀ a b c : PyData, sz [a, b, c] = some [a, b, c] := fun _ _ _ => rfl
  have hs := sortedIL_ok ((X.map (·.1)).filter (dif D V))
  generalize (X.map (·.1)).map PyData.int = KS at h1' hsz hk
  generalize ((X.map (·.1)).filter (dif D V)) = ws at h1' hs ⊢
  generalize dd V = dV at *
  generalize dd D = dD at *
  generalize dd X = dX at *
  generalize D.map pk = tD at *
  generalize V.map pk = tV at *
  unfold m_judge_poly
  rw [mSeq]
  cases hw : sortI ws with
  | nil =>
    have n0 : neD (.list []) (.list []) = some (.bool false) := by rw [neD_nil]; rfl
    rw [hw] at hs
    simp [mSeq, mIfS, mRet, mRetN, mPass, mOrT, mAndT, mNotT, mAsB, mIsi, mName, mOwn, mC, mOp, mOp3, mCl, mCons, mNil, mFrz, mFrzD, mSeqI, mCall, mAndV, mOrV, mNotV, mIfE, mTup, mLst, mSet, mSetF, mSetD, mPar, mUn, mUn', mCut, mP, mNoP, mIsN, mIsNot, mRng, mKeys, mYes, gSet, gTupD, gsCons, gsNil, mFz, mDrop, mAsg, mAppend, ev0, frzAt, wipeE, rdV_vl, rdB_vl, rdB_ol, rdB_od, asB_b, asI_i, seqD_l, seqD_t, lenI1, lenI2, lenI3, lft_some, pure_bind, getE0, getES, List.set_cons_zero, List.set_cons_succ, List.map_cons, List.map_nil, List.cons_append, List.nil_append, List.replicate_succ, List.replicate_zero, List.append_nil, List.length_cons, List.length_nil, if_true, if_false, ite_true, ite_false, Bool.false_eq_true, reduceIte, Bool.not_true, Bool.not_false, Nat.reduceAdd, Nat.reduceSub, List.zip_cons_cons, List.zip_nil_right, List.foldl_cons, List.foldl_nil, hp', s2, d1, d2, m1, mLc, hk, hsz, h1', hs, sz0, n0, resD]
  | cons i W =>
    have n0 : neD (.list (PyData.int i :: W.map PyData.int)) (.list []) = some (.bool true) := by rw [neD_nil]; rfl
    have x0 : ixD (.list (PyData.int i :: W.map PyData.int)) (.int 0) = some (.int i) := L2.atI_nat (j := 0) rfl
    have g0 : dget2D (.dict dD) (.int i) c_ZERO = some (gv D i) := hget i
    rw [hw, List.map_cons] at hs
    simp [mSeq, mIfS, mRet, mRetN, mPass, mOrT, mAndT, mNotT, mAsB, mIsi, mName, mOwn, mC, mOp, mOp3, mCl, mCons, mNil, mFrz, mFrzD, mSeqI, mCall, mAndV, mOrV, mNotV, mIfE, mTup, mLst, mSet, mSetF, mSetD, mPar, mUn, mUn', mCut, mP, mNoP, mIsN, mIsNot, mRng, mKeys, mYes, gSet, gTupD, gsCons, gsNil, mFz, mDrop, mAsg, mAppend, ev0, frzAt, wipeE, rdV_vl, rdB_vl, rdB_ol, rdB_od, asB_b, asI_i, seqD_l, seqD_t, lenI1, lenI2, lenI3, lft_some, pure_bind, getE0, getES, List.set_cons_zero, List.set_cons_succ, List.map_cons, List.map_nil, List.cons_append, List.nil_append, List.replicate_succ, List.replicate_zero, List.append_nil, List.length_cons, List.length_nil, if_true, if_false, ite_true, ite_false, Bool.false_eq_true, reduceIte, Bool.not_true, Bool.not_false, Nat.reduceAdd, Nat.reduceSub, List.zip_cons_cons, List.zip_nil_right, List.foldl_cons, List.foldl_nil, hp', s2, s3, d1, d2, m1, mLc, hk, hsz, h1', hs, sz0, n0, x0, g0, resD]

theorem fault_res (hs2 : ∀ e ∈ V, Small2 e.2) : mf_law_fault [.tuple (D.map pk), .tuple (V.map pk)] = pure (resD D (sortI ((X.map (·.1)).filter (dif D V)))) := by
  refine fn_rt ?_
  have hp' : mf_law_is_poly [.tuple (V.map pk)] = pure (.bool true) := by
    rw [law_is_poly_ok _ fun ds e => by
      cases e
      refine ⟨by rw [List.length_map]; omega, fun i c hc => ?_⟩
      obtain ⟨e, he, ee⟩ := List.mem_map.mp hc
      cases ee
      exact hs2 e he, hp]
  have d1 := dictL_l nV
  have d2 := dictL_l nD
  have m1 := dictL_app nV hX
  have a1 : addD (.list (V.map pk)) (.list (D.map pk)) = some (.list (V.map pk ++ D.map pk)) := if_pos (by rw [List.length_map, List.length_map]; omega)
  have l1 : listL [.tuple (V.map pk)] = some (V.map pk) := rfl
  have l2 : listL [.tuple (D.map pk)] = some (D.map pk) := rfl
  have h1 : ∀ ρ : Ev, ρ = [.vl (.tuple (D.map pk)), .vl (.tuple (V.map pk)), .vl (.dict (dd V)), .vl (.dict (dd D)), .no, .no] → lcM ((sortI (X.map (·.1))).map PyData.int) (lcF ρ (gSet 5) (mAsB (mOp neD (mOp3 dget2D (mName 2) (mName 5) (mTup (mCons (mC (.int 0)) (mCons (mC (.int 1)) (mNil))))) (mOp3 dget2D (mName 3) (mName 5) (mTup (mCons (mC (.int 0)) (mCons (mC (.int 1)) (mNil))))))) (mName 5) [5]) = pure ((sortI ((X.map (·.1)).filter (dif D V))).map PyData.int) := by
    rintro ρ rfl
    rw [← sort_filter]
    refine lcM_ints fun i _ => ?_
    unfold lcF
    have g1 : dget2D (.dict (dd V)) (.int i) (.tuple [.int 0, .int 1]) = some (gv V i) := get_ok V i
    have g2 : dget2D (.dict (dd D)) (.int i) (.tuple [.int 0, .int 1]) = some (gv D i) := get_ok D i
    have nn := dif_ok hD hV i
    have s2 : sz [PyData.int 0, .int 1] = some [.int 0, .int 1] := rfl
    simp only [mSeq, mIfS, mRet, mRetN, mPass, mOrT, mAndT, mNotT, mAsB, mIsi, mName, mOwn, mC, mOp, mOp3, mCl, mCons, mNil, mFrz, mFrzD, mSeqI, mCall, mAndV, mOrV, mNotV, mIfE, mTup, mLst, mSet, mSetF, mSetD, mPar, mUn, mUn', mCut, mP, mNoP, mIsN, mIsNot, mRng, mKeys, mYes, gSet, gTupD, gsCons, gsNil, mFz, mDrop, mAsg, mAppend, ev0, frzAt, wipeE, rdV_vl, rdB_vl, rdB_ol, rdB_od, asB_b, asI_i, seqD_l, seqD_t, lenI1, lenI2, lenI3, lft_some, pure_bind, getE0, getES, List.set_cons_zero, List.set_cons_succ, List.map_cons, List.map_nil, List.cons_append, List.nil_append, List.replicate_succ, List.replicate_zero, List.append_nil, List.length_cons, List.length_nil, if_true, if_false, ite_true, ite_false, Bool.false_eq_true, reduceIte, Bool.not_true, Bool.not_false, Nat.reduceAdd, Nat.reduceSub, List.zip_cons_cons, List.zip_nil_right, List.foldl_cons, List.foldl_nil, s2, g1, g2, nn]
    cases dif D V i <;> simp
  have h1' := h1 _ rfl
  have lS : (sortI (X.map (·.1))).length = X.length := by rw [(sortI_perm _).length_eq, List.length_map]
  have hsz : sz ((sortI (X.map (·.1))).map PyData.int) = some ((sortI (X.map (·.1))).map PyData.int) := sz_ok (by rw [List.length_map, lS]; omega)
  have hk := sortedDL_ok (X := X) (by omega)
  have hget : ∀ i, dget2D (.dict (dd D)) (.int i) (.tuple [.int 0, .int 1]) = some (gv D i) := get_ok D
  have s2 : ∀ a b : PyData, sz [a, b] = some [a, b] := fun _ _ => rfl
  have s3 : ∀ a b c : PyData, sz [a, b, c] = some [a, b, c] := fun _ _ _ => rfl
  generalize (sortI (X.map (·.1))).map PyData.int = KS at h1' hsz hk
  generalize sortI ((X.map (·.1)).filter (dif D V)) = W at h1' ⊢
  generalize dd V = dV at *
  generalize dd D = dD at *
  generalize dd X = dX at *
  generalize D.map pk = tD at *
  generalize V.map pk = tV at *
  unfold m_law_fault
  rw [mSeq]
  cases W with
  | nil =>
    have n0 : neD (.list []) (.list []) = some (.bool false) := by rw [neD_nil]; rfl
    rw [List.map_nil] at h1'
    simp [mSeq, mIfS, mRet, mRetN, mPass, mOrT, mAndT, mNotT, mAsB, mIsi, mName, mOwn, mC, mOp, mOp3, mCl, mCons, mNil, mFrz, mFrzD, mSeqI, mCall, mAndV, mOrV, mNotV, mIfE, mTup, mLst, mSet, mSetF, mSetD, mPar, mUn, mUn', mCut, mP, mNoP, mIsN, mIsNot, mRng, mKeys, mYes, gSet, gTupD, gsCons, gsNil, mFz, mDrop, mAsg, mAppend, ev0, frzAt, wipeE, rdV_vl, rdB_vl, rdB_ol, rdB_od, asB_b, asI_i, seqD_l, seqD_t, lenI1, lenI2, lenI3, lft_some, pure_bind, getE0, getES, List.set_cons_zero, List.set_cons_succ, List.map_cons, List.map_nil, List.cons_append, List.nil_append, List.replicate_succ, List.replicate_zero, List.append_nil, List.length_cons, List.length_nil, if_true, if_false, ite_true, ite_false, Bool.false_eq_true, reduceIte, Bool.not_true, Bool.not_false, Nat.reduceAdd, Nat.reduceSub, List.zip_cons_cons, List.zip_nil_right, List.foldl_cons, List.foldl_nil, hp', s2, d1, d2, m1, l1, l2, a1, mLc, hk, hsz, h1', sz0, n0, resD]
  | cons i W =>
    have n0 : neD (.list (PyData.int i :: W.map PyData.int)) (.list []) = some (.bool true) := by rw [neD_nil]; rfl
    have x0 : ixD (.list (PyData.int i :: W.map PyData.int)) (.int 0) = some (.int i) := L2.atI_nat (j := 0) rfl
    have g0 := hget i
    rw [List.map_cons] at h1'
    simp [mSeq, mIfS, mRet, mRetN, mPass, mOrT, mAndT, mNotT, mAsB, mIsi, mName, mOwn, mC, mOp, mOp3, mCl, mCons, mNil, mFrz, mFrzD, mSeqI, mCall, mAndV, mOrV, mNotV, mIfE, mTup, mLst, mSet, mSetF, mSetD, mPar, mUn, mUn', mCut, mP, mNoP, mIsN, mIsNot, mRng, mKeys, mYes, gSet, gTupD, gsCons, gsNil, mFz, mDrop, mAsg, mAppend, ev0, frzAt, wipeE, rdV_vl, rdB_vl, rdB_ol, rdB_od, asB_b, asI_i, seqD_l, seqD_t, lenI1, lenI2, lenI3, lft_some, pure_bind, getE0, getES, List.set_cons_zero, List.set_cons_succ, List.map_cons, List.map_nil, List.cons_append, List.nil_append, List.replicate_succ, List.replicate_zero, List.append_nil, List.length_cons, List.length_nil, if_true, if_false, ite_true, ite_false, Bool.false_eq_true, reduceIte, Bool.not_true, Bool.not_false, Nat.reduceAdd, Nat.reduceSub, List.zip_cons_cons, List.zip_nil_right, List.foldl_cons, List.foldl_nil, hp', s2, s3, d1, d2, m1, l1, l2, a1, mLc, hk, hsz, h1', sz0, n0, x0, g0, resD]
end
end K32
end

section
set_option Elab.async false
set_option linter.all false
set_option maxRecDepth 100000
set_option maxHeartbeats 4000000
namespace K32
open PySem PySem.Spec PyProof.Rows L2 DL
theorem fdivD_ok {i j : Int} (h : 0 < j ∧ j.natAbs.log2 < 9000) : fdivD (.int i) (.int j) = some (.int (i / j)) := if_pos h
theorem pick_ok {m : Int} (h1 : 1 ≤ m) (h2 : m ≤ 1000000) : Tri (mf_law_pick [.int m]) fun d => ∃ r : Int, d = .int r ∧ 0 ≤ r ∧ r < m := by
  refine t_fn ?_
  show Tri (m_law_pick [.src, .vl (.int m), .no, .no, .no, .no]) _
  unfold m_law_pick
  refine t_seqX (I := fun ρ => ρ = [.src, .vl (.int m), .no, .no, .no, .no]) ?_ ?_
  · refine t_if (B := fun b => b = decide (m < 2)) (t_asB (t_op (t_name rfl rfl) (t_c rfl) fun x y hx hy => ?_)) (fun h => t_ret (t_c (.inr ⟨_, rfl, _, rfl, 0, rfl, by omega, by omega⟩))) fun h => t_pass (.inl ⟨_, rfl, rfl⟩)
    subst hx hy
    exact ⟨_, rfl, _, rfl, rfl⟩
  · rintro ρ rfl
    refine t_seq (I := fun ρ => ρ = [.src, .vl (.int m), .scl, .no, .no, .no]) (Tri.pure ⟨_, rfl, rfl⟩) ?_
    rintro ρ rfl
    refine t_seq (I := fun ρ => ρ = [.src, .vl (.int m), .scl, .no, .no, .no]) (fun st ok => ?_) ?_
    · obtain ⟨st', e, ok'⟩ := drain_ok (ρ := [.src, .vl (.int m), .scl, .no, .no, .no]) rfl rfl 66 st ok (by have := ok.len; omega)
      exact ⟨_, st', e, ok', _, rfl, rfl⟩
    rintro ρ rfl
    refine t_seq (I := fun ρ => ∃ z : Int, 0 ≤ z ∧ ρ = [.src, .vl (.int m), .scl, .vl (.int z), .no, .no]) (t_set (t_getL rfl fun z hz => ⟨_, rfl, z, hz, rfl⟩)) ?_
    rintro ρ ⟨z, hz, rfl⟩
    refine t_seqX (I := fun ρ => ρ = [.src, .vl (.int m), .scl, .vl (.int z), .no, .no]) ?_ ?_
    · refine t_if (B := fun b => b = decide (1 < z)) (t_asB (t_op (t_name rfl rfl) (t_c rfl) fun x y hx hy => ?_)) (fun h => ?_) fun h => t_pass (.inl ⟨_, rfl, rfl⟩)
      · subst hx hy
        exact ⟨_, rfl, _, rfl, rfl⟩
      · refine t_seq (I := fun ρ => ρ = [.src, .vl (.int m), .scl, .vl (.int z), .no, .no]) (t_putL rfl (t_op (t_name rfl rfl) (t_name rfl rfl) fun x y hx hy => ?_) ⟨_, rfl, rfl⟩) ?_
        · subst hx hy
          refine ⟨_, if_pos ⟨by omega, ?_⟩, _, rfl, Int.ediv_nonneg hz (by omega)⟩
          exact log2_small (Nat.lt_of_le_of_lt (show m.natAbs ≤ 1000000 by omega) (by decide +kernel))
        · rintro ρ rfl
          refine t_ret (t_op (P := fun d => d = .int z) (Q := fun d => d = .int m) (t_cl (P := fun ds => ds = [.int z]) (t_cons (t_name rfl (t_nil rfl))) fun x hx => ?_) (t_name rfl rfl) fun x y hx hy => ?_)
          · subst hx; exact ⟨_, rfl, rfl⟩
          · subst hx hy
            exact ⟨_, if_pos (by omega), .inr ⟨_, rfl, _, rfl, _, rfl, Int.emod_nonneg _ (by omega), Int.emod_lt_of_pos _ (by omega)⟩⟩
    rintro ρ rfl
    refine t_seq (I := fun ρ => ρ = [.src, .vl (.int m), .scl, .vl (.int z), .no, .no]) (t_putT rfl (t_op (P := fun d => ∃ z : Int, d = .int z) (t_getX rfl (.inr rfl) fun z => ⟨z, rfl⟩) (t_c rfl) fun x y hx hy => ?_) ⟨_, rfl, rfl⟩) ?_
    · obtain ⟨a, rfl⟩ := hx
      subst hy
      exact ⟨_, rfl, _, rfl⟩
    rintro ρ rfl
    refine t_seq (I := fun ρ => ∃ t : Int, ρ = [.src, .vl (.int m), .scl, .vl (.int z), .vl (.int t), .no]) (t_set (t_getX rfl (.inr rfl) fun t => ⟨_, rfl, t, rfl⟩)) ?_
    rintro ρ ⟨t, rfl⟩
    have modp : ∀ (a b : Int), 0 < b → ∃ z, modD (.int a) (.int b) = some z ∧ ∃ r : Int, z = .int r ∧ 0 ≤ r ∧ r < b := fun a b hb => ⟨_, if_pos hb, _, rfl, Int.emod_nonneg _ (by omega), Int.emod_lt_of_pos _ hb⟩
    refine t_seq (I := fun ρ => ∃ x : Int, 0 ≤ x ∧ x < 998244353 ∧ ρ = [.src, .vl (.int m), .scl, .vl (.int z), .vl (.int t), .vl (.int x)]) (t_set (t_op (P := fun d => ∃ z : Int, d = .int z) (Q := fun d => d = .int 998244353) (t_cl (P := fun ds => ∃ z : Int, ds = [.int z]) (t_cons (t_op (P := fun d => ∃ z : Int, d = .int z) (Q := fun d => ∃ z : Int, d = .int z) (t_getX rfl (.inl rfl) fun z => ⟨z, rfl⟩) (t_op (t_name rfl rfl) (t_c rfl) fun x y hx hy => ?_) fun x y hx hy => ?_)) fun x hx => ?_) (t_c rfl) fun x y hx hy => ?_)) ?_
    · subst hx hy
      exact ⟨_, mulD_ok (.inl (by decide)), _, rfl⟩
    · obtain ⟨a, rfl⟩ := hx
      obtain ⟨b, rfl⟩ := hy
      exact ⟨_, rfl, t_nil ⟨_, rfl⟩⟩
    · obtain ⟨a, rfl⟩ := hx
      exact ⟨_, rfl, a, rfl⟩
    · obtain ⟨a, rfl⟩ := hx
      subst hy
      obtain ⟨z1, e, r, rfl, h1, h2⟩ := modp a 998244353 (by decide)
      exact ⟨_, e, _, rfl, r, h1, h2, rfl⟩
    rintro ρ ⟨x, hx1, hx2, rfl⟩
    refine t_seq (I := fun ρ => ∃ x : Int, 0 ≤ x ∧ ρ = [.src, .vl (.int m), .scl, .vl (.int z), .vl (.int t), .vl (.int x)]) (t_set (t_op (P := fun d => ∃ z : Int, d = .int z) (Q := fun d => d = .int 2147483647) (t_cl (P := fun ds => ∃ z : Int, ds = [.int z]) (t_cons (t_op (P := fun d => ∃ z : Int, d = .int z) (Q := fun d => ∃ z : Int, d = .int z) (t_op (t_name rfl rfl) (t_name rfl rfl) fun x y hx hy => ?_) (t_op (t_name rfl rfl) (t_c rfl) fun x y hx hy => ?_) fun x y hx hy => ?_)) fun x hx => ?_) (t_c rfl) fun x y hx hy => ?_)) ?_
    · subst hx hy
      exact ⟨_, mulD_ok (.inl (by omega)), _, rfl⟩
    · subst hx hy
      exact ⟨_, mulD_ok (.inl (by decide)), _, rfl⟩
    · obtain ⟨a, rfl⟩ := hx
      obtain ⟨b, rfl⟩ := hy
      exact ⟨_, rfl, t_nil ⟨_, rfl⟩⟩
    · obtain ⟨a, rfl⟩ := hx
      exact ⟨_, rfl, a, rfl⟩
    · obtain ⟨a, rfl⟩ := hx
      subst hy
      obtain ⟨z1, e, r, rfl, h1, h2⟩ := modp a 2147483647 (by decide)
      exact ⟨_, e, _, rfl, r, h1, rfl⟩
    rintro ρ ⟨y, hy1, rfl⟩
    refine t_ret (t_op (P := fun d => ∃ z : Int, d = .int z) (Q := fun d => d = .int m) (t_cl (P := fun ds => ∃ z : Int, ds = [.int z]) (t_cons (t_op (t_name rfl rfl) (t_c rfl) fun x y hx hy => ?_)) fun x hx => ?_) (t_name rfl rfl) fun x y hx hy => ?_)
    · subst hx hy
      exact ⟨_, fdivD_ok ⟨by decide, by decide⟩, t_nil ⟨_, rfl⟩⟩
    · obtain ⟨a, rfl⟩ := hx
      exact ⟨_, rfl, a, rfl⟩
    · obtain ⟨a, rfl⟩ := hx
      subst hy
      obtain ⟨z1, e, r, rfl, h1, h2⟩ := modp a m (by omega)
      exact ⟨_, e, _, rfl, r, rfl, h1, h2⟩
theorem of_ok {ds : List PyData} (h0 : ds ≠ []) (h1 : ds.length ≤ 1000000) : Tri (mf_law_of [.list ds]) fun d => d ∈ ds := by
  refine t_fn ?_
  show Tri (m_law_of [.src, .vl (.list ds)]) _
  unfold m_law_of
  have hp : 0 < ds.length := List.length_pos_iff.mpr h0
  refine t_ret (t_op (P := fun d => d = .list ds) (Q := fun d => ∃ r : Int, d = .int r ∧ 0 ≤ r ∧ r < ds.length) (t_name rfl rfl) (t_callS rfl (t_cons (t_cl (P := fun x => x = [.list ds]) (t_cons (t_name rfl (t_nil rfl))) fun x hx => ?_))) fun x y hx hy => ?_)
  · subst hx
    exact ⟨_, rfl, t_nil ⟨rfl, pick_ok (by omega) (by omega)⟩⟩
  · subst hx
    obtain ⟨r, rfl, h2, h3⟩ := hy
    obtain ⟨k, rfl⟩ := Int.eq_ofNat_of_zero_le h2
    have hk : k < ds.length := by omega
    have e : ds[k]? = some ds[k] := List.getElem?_eq_getElem hk
    exact ⟨_, L2.atI_nat e, _, rfl, List.getElem_mem hk⟩
end K32
end

section
set_option Elab.async false
set_option linter.all false
set_option maxRecDepth 100000
set_option maxHeartbeats 4000000
namespace K32
open PySem PySem.Spec PyProof.Rows L2 DL
theorem powD_ok {i j : Int} (h : 0 ≤ j ∧ j ≤ 1000000 ∧ i.natAbs < 2 ^ 64) : powD (.int i) (.int j) = some (.int (i ^ j.toNat)) := if_pos h
theorem pow12 : powD (.int 10) (.int 12) = some (.int 1000000000000) := by rw [powD_ok ⟨by decide, by decide, by decide⟩]; rfl
theorem pow20 : powD (.int 10) (.int 20) = some (.int 100000000000000000000) := by rw [powD_ok ⟨by decide, by decide, by decide⟩]; rfl
theorem pow30 : powD (.int 10) (.int 30) = some (.int 1000000000000000000000000000000) := by rw [powD_ok ⟨by decide, by decide, by decide⟩]; rfl
structure FrOk (d : PyData) : Prop where
  fr : isFrac d = true
  nz : nz d = true
  w : d.weight ≤ 50
  dp : d.depth ≤ 1
  tx : txt d = true
  pl : d.plain = true
  qw : ∀ a b : Int, d = .tuple [.int a, .int b] → (PyData.int b).weight ≤ 4
def frB (p q : Int) : Bool := isFrac (fracD p q) && nz (fracD p q) && decide ((fracD p q).weight ≤ 50) && decide ((fracD p q).depth ≤ 1) && txt (fracD p q) && (fracD p q).plain && decide ((PyData.int (q / (Nat.gcd p.natAbs q.natAbs : Nat))).weight ≤ 4)
theorem frB_ok {p q : Int} (h : frB p q = true) : FrOk (fracD p q) := by
  unfold frB at h
  simp only [Bool.and_eq_true, decide_eq_true_eq] at h
  exact ⟨h.1.1.1.1.1.1, h.1.1.1.1.1.2, h.1.1.1.1.2, h.1.1.1.2, h.1.1.2, h.1.2, fun a b e => by
    unfold fracD at e
    cases e
    exact h.2⟩
def ps : List Int := [1, -1, 2, 5, -7, 1000000000000]
def qs : List Int := [1, 1, 2, 3, 12]
theorem all_frB : ∀ p ∈ ps, ∀ q ∈ qs, frB p q = true := by decide +kernel
theorem drawn_ok : Tri (mf_law_drawn_fraction []) FrOk := by
  refine t_fn ?_
  show Tri (m_law_drawn_fraction [.src]) _
  unfold m_law_drawn_fraction
  refine t_ret (t_call (t_cons ?_))
  refine (t_callS (Q := fun d => d ∈ ps.map PyData.int) rfl (t_cons (t_frz (t_lst ?_)))).mono ?_
  · refine t_cons (t_c (t_cons (t_un (P := fun d => d = .int 1) (t_c rfl) fun x hx => ?_)))
    subst hx
    refine ⟨.int (-1), rfl, t_cons (t_c (t_cons (t_c (t_cons (t_un (P := fun d => d = .int 7) (t_c rfl) fun x hx => ?_)))))⟩
    subst hx
    refine ⟨.int (-7), rfl, t_cons (t_op (P := fun d => d = .int 10) (Q := fun d => d = .int 12) (t_c rfl) (t_c rfl) fun x y hx hy => ?_)⟩
    subst hx hy
    refine ⟨.int 1000000000000, pow12, t_nil ⟨by decide, t_nil ⟨rfl, ?_⟩⟩⟩
    exact of_ok (by simp) (by decide)
  · intro d hd
    obtain ⟨p, hp, rfl⟩ := List.mem_map.mp hd
    refine t_cons ((t_callS (Q := fun d => d ∈ qs.map PyData.int) rfl (t_cons (t_frz (t_lst (t_cons (t_c (t_cons (t_c (t_cons (t_c (t_cons (t_c (t_cons (t_c (t_nil ⟨by decide, t_nil ⟨rfl, of_ok (by simp) (by decide)⟩⟩))))))))))))))).mono ?_)
    intro e he
    obtain ⟨q, hq, rfl⟩ := List.mem_map.mp he
    refine t_nil ⟨rfl, ?_⟩
    have h0 : 0 < q ∧ q.natAbs < 2 ^ 900 := by
      have : ∀ q ∈ qs, 0 < q ∧ q.natAbs < 2 ^ 900 := by decide +kernel
      exact this q hq
    exact Tri.eq (law_fraction_ok h0.1 h0.2) ⟨_, rfl, frB_ok (all_frB p hp q hq)⟩
end K32
end

section
set_option Elab.async false
set_option linter.all false
set_option maxRecDepth 100000
set_option maxHeartbeats 4000000
namespace K32
open PySem PySem.Spec PyProof.Rows L2 DL
theorem nodup_len : ∀ (xs r : List Int), xs.Nodup → (∀ x ∈ xs, x ∈ r) → xs.length ≤ r.length
  | [], _, _, _ => Nat.zero_le _
  | x :: xs, r, h, hs => by
    have hx : x ∈ r := hs x List.mem_cons_self
    have ih := nodup_len xs (r.erase x) (List.nodup_cons.mp h).2 fun y hy => (List.mem_erase_of_ne (fun z => (List.nodup_cons.mp h).1 (by rw [← z]; exact hy))).mpr (hs y (List.mem_cons_of_mem _ hy))
    rw [List.length_erase_of_mem hx] at ih
    have := List.length_pos_of_mem hx
    rw [List.length_cons]
    omega
structure KOk (K : List (Int × PyData)) : Prop where
  fr : ∀ e ∈ K, FrOk e.2
  rg : ∀ e ∈ K, -3 ≤ e.1 ∧ e.1 ≤ 5
  nd : (K.map (·.1)).Nodup
theorem KOk.len {K : List (Int × PyData)} (h : KOk K) : K.length ≤ 9 := by
  have := nodup_len (K.map (·.1)) [-3, -2, -1, 0, 1, 2, 3, 4, 5] h.nd fun x hx => by
    obtain ⟨e, he, rfl⟩ := List.mem_map.mp hx
    have := h.rg e he
    simp only [List.mem_cons, List.not_mem_nil, or_false]
    omega
  simpa using this
theorem KOk.put {K : List (Int × PyData)} (h : KOk K) {i : Int} {v : PyData} (hi : -3 ≤ i ∧ i ≤ 5) (hv : FrOk v) : ∃ K', dput (dd K) (.inl i) v = dd K' ∧ KOk K' := by
  rw [dput_dd]
  refine ⟨_, rfl, ?_⟩
  by_cases ha : (K.any fun e => decide (e.1 = i)) = true
  · rw [if_pos ha]
    refine ⟨fun e he => ?_, fun e he => ?_, ?_⟩
    · obtain ⟨x, hx, rfl⟩ := List.mem_map.mp he
      by_cases z : x.1 = i
      · rw [if_pos z]; exact hv
      · rw [if_neg z]; exact h.fr x hx
    · obtain ⟨x, hx, rfl⟩ := List.mem_map.mp he
      by_cases z : x.1 = i
      · rw [if_pos z]; exact h.rg x hx
      · rw [if_neg z]; exact h.rg x hx
    · rw [List.map_map]
      have e : (K.map ((·.1) ∘ fun e => if e.1 = i then (e.1, v) else e)) = K.map (·.1) := List.map_congr_left fun x _ => by
        show (if x.1 = i then (x.1, v) else x).1 = x.1
        split <;> rfl
      rw [e]; exact h.nd
  · rw [if_neg ha]
    refine ⟨fun e he => ?_, fun e he => ?_, ?_⟩
    · rcases List.mem_append.mp he with he | he
      · exact h.fr e he
      · rw [List.mem_singleton.mp he]; exact hv
    · rcases List.mem_append.mp he with he | he
      · exact h.rg e he
      · rw [List.mem_singleton.mp he]; exact hi
    · rw [List.map_append, List.nodup_append]
      refine ⟨h.nd, by simp, fun a ha' b hb e => ha ?_⟩
      simp at hb
      subst hb
      subst e
      obtain ⟨x, hx, e⟩ := List.mem_map.mp ha'
      exact List.any_eq_true.mpr ⟨x, hx, decide_eq_true e⟩
structure POk (D : List (Int × PyData)) : Prop where
  fr : ∀ e ∈ D, FrOk e.2
  rg : ∀ e ∈ D, -3 ≤ e.1 ∧ e.1 ≤ 5
  pw : (D.map (·.1)).Pairwise (· < ·)
  len : D.length ≤ 9
theorem dlook_some {K : List (Int × PyData)} {i : Int} (h : i ∈ K.map (·.1)) : ∃ v, dlook (dd K) (.inl i) = some v := by
  obtain ⟨e, he, rfl⟩ := List.mem_map.mp h
  unfold dlook
  cases hf : (dd K).find? fun kv => decide (keyOf kv.1 = some (.inl e.1)) with
  | some kv => exact ⟨_, rfl⟩
  | none =>
    have := List.find?_eq_none.mp hf (.int e.1, e.2) (List.mem_map.mpr ⟨e, he, rfl⟩)
    simp [keyOf_iff] at this
def vat (K : List (Int × PyData)) (i : Int) : PyData := (dlook (dd K) (.inl i)).getD .none
def srt (K : List (Int × PyData)) : List (Int × PyData) := (sortI (K.map (·.1))).map fun i => (i, vat K i)
theorem KOk.srt {K : List (Int × PyData)} (h : KOk K) : POk (srt K) := by
  have hm : ∀ e ∈ K32.srt K, e.1 ∈ K.map (·.1) ∧ ∃ x ∈ K, e.2 = x.2 := fun e he => by
    obtain ⟨i, hi, rfl⟩ := List.mem_map.mp he
    have hi' := (sortI_perm _).mem_iff.mp hi
    obtain ⟨v, hv⟩ := dlook_some hi'
    obtain ⟨x, hx, ex⟩ := dlook_mem hv
    refine ⟨hi', x, hx, ?_⟩
    show vat K i = x.2
    unfold vat
    rw [hv, ex]; rfl
  have hk : (K32.srt K).map (·.1) = sortI (K.map (·.1)) := by
    unfold K32.srt
    rw [List.map_map]
    exact List.map_id _
  refine ⟨fun e he => ?_, fun e he => ?_, ?_, ?_⟩
  · obtain ⟨_, x, hx, e2⟩ := hm e he
    rw [e2]; exact h.fr x hx
  · obtain ⟨x, hx, e2⟩ := List.mem_map.mp (hm e he).1
    rw [← e2]; exact h.rg x hx
  · rw [hk]
    have h1 := sortI_le (K.map (·.1))
    have h2 : (sortI (K.map (·.1))).Pairwise (· ≠ ·) := (sortI_perm _).nodup_iff.mpr h.nd
    exact (h1.and h2).imp fun h => by omega
  · unfold K32.srt
    rw [List.length_map, (sortI_perm _).length_eq, List.length_map]
    exact h.len
theorem poly_ok {many : Int} (h0 : 0 ≤ many) (h1 : many ≤ 100) : Tri (mf_law_poly [.int many]) fun d => ∃ D, d = .tuple (D.map pk) ∧ POk D := by
  refine t_fn ?_
  show Tri (m_law_poly [.src, .vl (.int many), .no, .no, .no]) _
  unfold m_law_poly
  refine t_seq (I := fun ρ => ρ = [.src, .vl (.int many), .od (dd []), .no, .no]) (t_setD (Tri.pure ⟨_, rfl, rfl⟩)) ?_
  rintro ρ rfl
  refine t_seq (I := fun ρ => ∃ K x y, ρ = [.src, .vl (.int many), .od (dd K), x, y] ∧ KOk K) (t_for (I := fun ρ => ∃ K x y, ρ = [.src, .vl (.int many), .od (dd K), x, y] ∧ KOk K) (P := fun _ => True) (t_rng (P := fun ds => ∃ r : Int, ds = [.int r] ∧ 0 ≤ r ∧ r ≤ 100) (t_cons ((t_callS (Q := fun d => ∃ r : Int, d = .int r ∧ 0 ≤ r ∧ r < many + 1) rfl (t_cons (t_op (P := fun d => d = .int many) (Q := fun d => d = .int 1) (t_name rfl rfl) (t_c rfl) fun x y hx hy => ?_))).mono ?_)) fun x hx => ?_) ⟨[], _, _, rfl, ⟨(fun e he => nomatch he), (fun e he => nomatch he), List.Pairwise.nil⟩⟩ ?_ fun ρ' h => ⟨ρ', rfl, h⟩) ?_
  · subst hx hy
    exact ⟨_, rfl, t_nil ⟨rfl, pick_ok (by omega) (by omega)⟩⟩
  · rintro d ⟨r, rfl, h2, h3⟩
    exact t_nil ⟨r, rfl, h2, by omega⟩
  · obtain ⟨r, rfl, h2, h3⟩ := hx
    exact ⟨_, rng1D_ok (by omega) (by omega), trivial⟩
  · rintro ds _ d _ ρ ⟨K, x, y, rfl, hK⟩
    refine Tri.pure ?_
    show Tri (mDPut 2 _ _ [.src, .vl (.int many), .od (dd K), .vl d, y]) _
    refine Tri.bind (t_callS rfl (t_nil ⟨rfl, drawn_ok⟩)) fun v hv => Tri.bind (P := (· = dd K)) (Tri.lft (show odAt [.src, .vl (.int many), .od (dd K), .vl d, y] 2 = some (dd K) from rfl) rfl) ?_
    rintro _ rfl
    refine Tri.bind (P := fun kd => ∃ i : Int, kd = .int i ∧ -3 ≤ i ∧ i ≤ 5) (t_op (P := fun d => ∃ r : Int, d = .int r ∧ 0 ≤ r ∧ r < 9) (Q := fun d => d = .int 3) (t_callS rfl (t_cons (t_c (t_nil ⟨rfl, pick_ok (by decide) (by decide)⟩)))) (t_c rfl) fun x y hx hy => ?_) ?_
    · obtain ⟨r, rfl, h2, h3⟩ := hx
      subst hy
      exact ⟨_, rfl, r - 3, rfl, by omega, by omega⟩
    · rintro _ ⟨i, rfl, hi⟩
      obtain ⟨K', e, hK'⟩ := hK.put hi hv
      refine Tri.bind (P := (· = Sum.inl i)) (Tri.lft (show keyOf (.int i) = some (.inl i) from rfl) rfl) ?_
      rintro _ rfl
      refine Tri.bind (P := (· = dd K')) (Tri.lft (show szI (dd K).length (dput (dd K) (.inl i) v) = some (dd K') by rw [e]; exact if_pos (by rw [List.length_map]; have := hK.len; omega)) rfl) ?_
      rintro _ rfl
      exact Tri.pure ⟨_, rfl, K', _, _, rfl, hK'⟩
  · rintro ρ ⟨K, x, y, rfl, hK⟩
    have hS := hK.srt
    have hl := hK.len
    refine t_ret (Tri.eq (a := .tuple ((K32.srt K).map pk)) ?_ ⟨_, rfl, K32.srt K, rfl, hS⟩)
    have lS : (sortI (K.map (·.1))).length = K.length := by rw [(sortI_perm _).length_eq, List.length_map]
    have hsz : sz ((sortI (K.map (·.1))).map PyData.int) = some ((sortI (K.map (·.1))).map PyData.int) := sz_ok (by rw [List.length_map, lS]; omega)
    have hk := sortedDL_ok (X := K) (by omega)
    have s2 : ∀ a b : PyData, sz [a, b] = some [a, b] := fun _ _ => rfl
    have h1 : ∀ ρ : Ev, ρ = [.src, .vl (.int many), .od (dd K), x, y] → lcM ((sortI (K.map (·.1))).map PyData.int) (lcF ρ (gSet 4) (mYes) (mTup (mCons (mName 4) (mCons (mOp dgetD (mOwn 2) (mName 4)) (mNil)))) [4]) = pure ((K32.srt K).map pk) := by
      rintro ρ rfl
      rw [lcM_map (h := fun d => match d with | .int i => .tuple [.int i, vat K i] | d => d) fun d hd => ?_]
      · unfold K32.srt
        rw [List.map_map, List.map_map]; rfl
      · obtain ⟨i, hi, rfl⟩ := List.mem_map.mp hd
        obtain ⟨v, hv⟩ := dlook_some ((sortI_perm _).mem_iff.mp hi)
        have g : dgetD (.dict (dd K)) (.int i) = some (vat K i) := by
          show dlook (dd K) (.inl i) = _
          unfold vat
          rw [hv]; rfl
        unfold lcF
        simp only [mSeq, mIfS, mRet, mRetN, mPass, mOrT, mAndT, mNotT, mAsB, mIsi, mName, mOwn, mC, mOp, mOp3, mCl, mCons, mNil, mFrz, mFrzD, mSeqI, mCall, mAndV, mOrV, mNotV, mIfE, mTup, mLst, mSet, mSetF, mSetD, mPar, mUn, mUn', mCut, mP, mNoP, mIsN, mIsNot, mRng, mKeys, mYes, gSet, gTupD, gsCons, gsNil, mFz, mDrop, mAsg, mAppend, ev0, frzAt, wipeE, rdV_vl, rdB_vl, rdB_ol, rdB_od, asB_b, asI_i, seqD_l, seqD_t, lenI1, lenI2, lenI3, lft_some, pure_bind, getE0, getES, List.set_cons_zero, List.set_cons_succ, List.map_cons, List.map_nil, List.cons_append, List.nil_append, List.replicate_succ, List.replicate_zero, List.append_nil, List.length_cons, List.length_nil, if_true, if_false, ite_true, ite_false, Bool.false_eq_true, reduceIte, Bool.not_true, Bool.not_false, Nat.reduceAdd, Nat.reduceSub, List.zip_cons_cons, List.zip_nil_right, List.foldl_cons, List.foldl_nil, g, s2]
    have h1' := h1 _ rfl
    have ht : tupleD [.list ((K32.srt K).map pk)] = some (.tuple ((K32.srt K).map pk)) := rfl
    generalize (sortI (K.map (·.1))).map PyData.int = KS at h1' hsz hk
    generalize (K32.srt K).map pk = R at h1' ht ⊢
    generalize dd K = dK at *
    simp only [mSeq, mIfS, mRet, mRetN, mPass, mOrT, mAndT, mNotT, mAsB, mIsi, mName, mOwn, mC, mOp, mOp3, mCl, mCons, mNil, mFrz, mFrzD, mSeqI, mCall, mAndV, mOrV, mNotV, mIfE, mTup, mLst, mSet, mSetF, mSetD, mPar, mUn, mUn', mCut, mP, mNoP, mIsN, mIsNot, mRng, mKeys, mYes, gSet, gTupD, gsCons, gsNil, mFz, mDrop, mAsg, mAppend, ev0, frzAt, wipeE, rdV_vl, rdB_vl, rdB_ol, rdB_od, asB_b, asI_i, seqD_l, seqD_t, lenI1, lenI2, lenI3, lft_some, pure_bind, getE0, getES, List.set_cons_zero, List.set_cons_succ, List.map_cons, List.map_nil, List.cons_append, List.nil_append, List.replicate_succ, List.replicate_zero, List.append_nil, List.length_cons, List.length_nil, if_true, if_false, ite_true, ite_false, Bool.false_eq_true, reduceIte, Bool.not_true, Bool.not_false, Nat.reduceAdd, Nat.reduceSub, List.zip_cons_cons, List.zip_nil_right, List.foldl_cons, List.foldl_nil, mLc, hk, hsz, h1', ht]
end K32
end

section
set_option Elab.async false
set_option linter.all false
set_option maxRecDepth 100000
set_option maxHeartbeats 4000000
namespace K32
open PySem PySem.Spec PyProof.Rows L2 DL
theorem wA_app : ∀ xs ys : List PyData, PyData.weightAll (xs ++ ys) = PyData.weightAll xs + PyData.weightAll ys
  | [], ys => by simp [PyData.weightAll]
  | x :: xs, ys => by
    rw [List.cons_append]
    simp only [PyData.weightAll, wA_app xs ys]
    omega
theorem wA_one (x : PyData) : PyData.weightAll [x] = x.weight + 1 := by simp [PyData.weightAll]
theorem wA_rev : ∀ xs : List PyData, PyData.weightAll xs.reverse = PyData.weightAll xs
  | [] => rfl
  | x :: xs => by
    rw [List.reverse_cons, wA_app, wA_rev xs, wA_one]
    simp only [PyData.weightAll]
    omega
theorem dA_le {k : Nat} : ∀ {xs : List PyData}, (∀ x ∈ xs, x.depth ≤ k) → PyData.depthAll xs ≤ k
  | [], _ => by simp [PyData.depthAll]
  | x :: xs, h => by
    have h1 := h x List.mem_cons_self
    have h2 := dA_le fun y hy => h y (List.mem_cons_of_mem x hy)
    simp only [PyData.depthAll]
    omega
theorem dA_mem : ∀ {xs : List PyData} {x : PyData}, x ∈ xs → x.depth ≤ PyData.depthAll xs
  | y :: ys, x, h => by
    simp only [PyData.depthAll]
    rcases List.mem_cons.mp h with rfl | h
    · omega
    · have := dA_mem h; omega
theorem tA_iff : ∀ {xs : List PyData}, txtAll xs = true ↔ ∀ x ∈ xs, txt x = true
  | [] => by simp [txtAll]
  | x :: xs => by
    simp only [txtAll, Bool.and_eq_true, tA_iff, List.mem_cons, forall_eq_or_imp]
theorem w_tup (ds : List PyData) : (PyData.tuple ds).weight = PyData.weightAll ds := by simp only [PyData.weight]
theorem w_lst (ds : List PyData) : (PyData.list ds).weight = PyData.weightAll ds := by simp only [PyData.weight]
theorem d_tup (ds : List PyData) : (PyData.tuple ds).depth = PyData.depthAll ds + 1 := by simp only [PyData.depth]
theorem d_lst (ds : List PyData) : (PyData.list ds).depth = PyData.depthAll ds + 1 := by simp only [PyData.depth]
theorem t_tupl (ds : List PyData) : txt (.tuple ds) = txtAll ds := by simp only [txt]
theorem t_lstl (ds : List PyData) : txt (.list ds) = txtAll ds := by simp only [txt]
/-- within bounds -/
structure Bo (w dp : Nat) (d : PyData) : Prop where
  w : d.weight ≤ w
  dp : d.depth ≤ dp
  tx : txt d = true
theorem Bo.mono {w w' dp dp' : Nat} {d : PyData} (h : Bo w dp d) (h1 : w ≤ w') (h2 : dp ≤ dp') : Bo w' dp' d := ⟨Nat.le_trans h.w h1, Nat.le_trans h.dp h2, h.tx⟩
theorem Bo.tup {w dp : Nat} {xs : List PyData} (hw : PyData.weightAll xs ≤ w) (hd : ∀ x ∈ xs, x.depth ≤ dp) (ht : ∀ x ∈ xs, txt x = true) : Bo w (dp + 1) (.tuple xs) :=
  ⟨by rw [w_tup]; exact hw, by rw [d_tup]; have := dA_le hd; omega, by rw [t_tupl]; exact tA_iff.mpr ht⟩
theorem Bo.lst {w dp : Nat} {xs : List PyData} (hw : PyData.weightAll xs ≤ w) (hd : ∀ x ∈ xs, x.depth ≤ dp) (ht : ∀ x ∈ xs, txt x = true) : Bo w (dp + 1) (.list xs) :=
  ⟨by rw [w_lst]; exact hw, by rw [d_lst]; have := dA_le hd; omega, by rw [t_lstl]; exact tA_iff.mpr ht⟩
theorem wt_int {z i : Int} (h : z.natAbs ≤ i.natAbs + 2) : (PyData.int z).weight ≤ (PyData.int i).weight + 3 := by
  have e : ∀ z : Int, z ≠ 0 → (PyData.int z).weight = z.natAbs.log2 + 1 := fun z hz => by
    simp only [PyData.weight]
    rw [if_neg (by simpa using hz)]
  by_cases hz : z = 0
  · subst hz
    have : (PyData.int 0).weight = 0 := by simp [PyData.weight]
    omega
  · rw [e z hz]
    by_cases hi : i = 0
    · subst hi
      have h2 : z.natAbs ≤ 2 := by simpa using h
      have : z.natAbs.log2 < 2 := (Nat.log2_lt (by omega)).mpr (by omega)
      omega
    · rw [e i hi]
      have h1 : i.natAbs < 2 ^ (i.natAbs.log2 + 1) := Nat.lt_log2_self
      have : z.natAbs.log2 < i.natAbs.log2 + 3 := (Nat.log2_lt (by omega)).mpr (by
        have e2 : 2 ^ (i.natAbs.log2 + 3) = 2 ^ (i.natAbs.log2 + 1) * 4 := by rw [Nat.pow_add, Nat.pow_add]; omega
        omega)
      omega
/-- what may be bent -/
def Bd : Nat → PyData → Prop
  | 0, _ => False
  | n + 1, v => v.plain = true ∧ Bo 700 4 v ∧ ∀ ds, v = .tuple ds → ds.length ≤ 20 ∧ ∀ e ∈ ds, e.weight ≤ 60 ∧ Bd n e
/-- what comes of it -/
structure Br (v d : PyData) : Prop where
  w : d.weight ≤ v.weight + 100
  dp : d.depth ≤ v.depth + 3
  tx : txt d = true
  len : ∀ ds, d = .tuple ds → ds.length ≤ 21
structure OddOk (os : List PyData) : Prop where
  ne : os ≠ []
  len : os.length ≤ 100
  bo : ∀ o ∈ os, Bo 100 3 o
  sh : ∀ o ∈ os, ∀ ds, o = .tuple ds → ds.length ≤ 21
theorem cut_take (ds : List PyData) (k : Nat) (h : k ≤ ds.length) : cutP ds none (some (k : Int)) = ds.take k := by
  unfold cutP
  rw [HT.sIx_none, show HT.sIx ds.length ds.length (some (k : Int)) = min k ds.length from HT.sIx_nat ds.length ds.length k, Nat.min_eq_left h, Nat.sub_zero, List.drop_zero]
theorem cut_drop (ds : List PyData) (k : Nat) (h : k ≤ ds.length) : cutP ds (some (k : Int)) none = ds.drop k := by
  unfold cutP
  rw [HT.sIx_none, show HT.sIx ds.length 0 (some (k : Int)) = min k ds.length from HT.sIx_nat ds.length 0 k, Nat.min_eq_left h, List.take_of_length_le (by rw [List.length_drop]; exact Nat.le_refl _)]
end K32
end

section
set_option Elab.async false
set_option linter.all false
set_option maxRecDepth 100000
set_option maxHeartbeats 4000000
namespace K32
open PySem PySem.Spec PyProof.Rows L2 DL
theorem eqD_unit {ds : List PyData} (h : (PyData.tuple ds).plain = true) : eqD (.tuple ds) (.tuple []) = some (.bool ds.isEmpty) := by
  unfold eqD eqF
  rw [if_pos ⟨h, rfl, .inr (by simp [PyData.depth, PyData.depthAll])⟩]
  cases ds <;> simp [PyData.eqv, PyData.eqvAll]
theorem bent_ok {os : List PyData} (ho : OddOk os) : ∀ (n : Nat) (v : PyData), Bd n v → Tri (mf_law_bent n [v, .list os]) (Br v)
  | 0, _, h => h.elim
  | n + 1, v, ⟨pl, bo, sub⟩ => by
    have oddT : ∀ {ρ : Ev}, ρ[0]? = some .src → ρ[2]? = some (.vl (.list os)) → Tri (mRet (mCallS 1 0 mf_law_of (mCons (mName 2) (mNil))) ρ) fun fl => ∃ d, fl = .rt d ∧ Br v d := fun h0 h2 =>
      t_ret ((t_callS h0 (t_cons (t_name h2 (t_nil ⟨rfl, of_ok ho.ne (Nat.le_trans ho.len (by decide))⟩)))).mono fun d hd => ⟨d, rfl, by have := (ho.bo d hd).w; omega, by have := (ho.bo d hd).dp; omega, (ho.bo d hd).tx, ho.sh d hd⟩)
    refine t_fn ?_
    show Tri (m_law_bent (mf_law_bent n) [.src, .vl v, .vl (.list os), .no, .no]) _
    unfold m_law_bent
    refine t_seqX (I := fun ρ => ρ = [.src, .vl v, .vl (.list os), .no, .no]) ?_ ?_
    · by_cases hi : ∃ i, v = .int i
      · obtain ⟨i, rfl⟩ := hi
        refine t_if (B := fun _ => True) ?_ (fun _ => ?_) fun _ => t_pass (.inl ⟨_, rfl, rfl⟩)
        · refine t_and (A := fun _ => True) (Tri.eq (a := true) rfl trivial) (fun _ => t_and (A := fun _ => True) (Tri.eq (a := true) rfl trivial) (fun _ => t_asB (t_op (P := fun d => ∃ r : Int, d = .int r) (Q := fun d => d = .int 0) ((t_callS rfl (t_cons (t_c (t_nil ⟨rfl, pick_ok (by decide) (by decide)⟩)))).mono fun d ⟨r, e, _⟩ => ⟨r, e⟩) (t_c rfl) fun x y hx hy => ?_)) fun _ => trivial) fun _ => trivial
          obtain ⟨r, rfl⟩ := hx
          subst hy
          exact ⟨_, rfl, _, rfl, trivial⟩
        · refine t_ret (t_op (P := fun d => d = .int i) (Q := fun d => d ∈ [PyData.int 1, .int (-1), .int 2]) (t_name rfl rfl) (t_callS rfl (t_cons (t_frz (t_lst (t_cons (t_c (t_cons (t_un (P := fun d => d = .int 1) (t_c rfl) fun x hx => ?_)))))))) fun x y hx hy => ?_)
          · subst hx
            exact ⟨.int (-1), rfl, t_cons (t_c (t_nil ⟨by decide, t_nil ⟨rfl, of_ok (by simp) (by decide)⟩⟩))⟩
          · subst hx
            have key : ∀ z : Int, z.natAbs ≤ i.natAbs + 2 → Br (.int i) (.int z) := fun z hz => ⟨by have := wt_int hz; omega, by simp [PyData.depth], by simp [txt], fun ds e => by cases e⟩
            simp only [List.mem_cons, List.not_mem_nil, or_false] at hy
            rcases hy with rfl | rfl | rfl
            · exact ⟨_, rfl, .inr ⟨_, rfl, _, rfl, key _ (by omega)⟩⟩
            · exact ⟨_, rfl, .inr ⟨_, rfl, _, rfl, key _ (by omega)⟩⟩
            · exact ⟨_, rfl, .inr ⟨_, rfl, _, rfl, key _ (by omega)⟩⟩
      · refine t_if (B := fun b => b = false) ?_ (fun h => nomatch h) fun _ => t_pass (.inl ⟨_, rfl, rfl⟩)
        cases v with
        | int i => exact absurd ⟨i, rfl⟩ hi
        | none => exact Tri.eq (a := false) rfl rfl
        | bool b => exact Tri.eq (a := false) rfl rfl
        | str b => exact Tri.eq (a := false) rfl rfl
        | list b => exact Tri.eq (a := false) rfl rfl
        | tuple b => exact Tri.eq (a := false) rfl rfl
        | dict b => exact Tri.eq (a := false) rfl rfl
    rintro ρ rfl
    by_cases ht : ∃ ds, v = .tuple ds
    · obtain ⟨ds, rfl⟩ := ht
      obtain ⟨hl, he⟩ := sub ds rfl
      refine t_seqX (I := fun ρ => ρ = [.src, .vl (.tuple ds), .vl (.list os), .no, .no] ∧ ds ≠ []) ?_ ?_
      · refine t_if (B := fun b => b = false → ds ≠ []) ?_ (fun _ => (oddT rfl rfl).mono fun fl ⟨d, e, h⟩ => .inr ⟨d, e, d, rfl, h⟩) fun h => t_pass (.inl ⟨_, rfl, rfl, h rfl⟩)
        refine t_or (A := fun b => b = false) (Tri.eq (a := false) rfl rfl) (fun h => nomatch h) fun _ => ?_
        refine t_or (A := fun b => b = ds.isEmpty) (t_asB (t_op (P := fun d => d = .tuple ds) (Q := fun d => d = .tuple []) (t_name rfl rfl) (t_tup (t_nil ⟨by decide, rfl⟩)) fun x y hx hy => ?_)) (fun h z => nomatch z) fun h => ?_
        · subst hx hy
          exact ⟨_, eqD_unit pl, _, rfl, rfl⟩
        · have hne : ds ≠ [] := fun z => by rw [z] at h; cases h
          refine t_asB (t_op (P := fun d => ∃ r : Int, d = .int r) (Q := fun d => d = .int 0) ((t_callS rfl (t_cons (t_c (t_nil ⟨rfl, pick_ok (by decide) (by decide)⟩)))).mono fun d ⟨r, e, _⟩ => ⟨r, e⟩) (t_c rfl) fun x y hx hy => ?_)
          obtain ⟨r, rfl⟩ := hx
          subst hy
          exact ⟨_, eqD_int r 0, _, rfl, fun _ => hne⟩
      rintro ρ ⟨rfl, hne⟩
      have hp : 0 < ds.length := List.length_pos_iff.mpr hne
      refine t_seq (I := fun ρ => ∃ (k : Nat) (w : Int), k < ds.length ∧ ρ = [.src, .vl (.tuple ds), .vl (.list os), .vl (.int k), .vl (.int w)]) ?_ ?_
      · refine Tri.bind (P := fun xs => ∃ (k : Nat) (w : Int), k < ds.length ∧ xs = [.int k, .int w]) (t_cons ((t_callS (Q := fun d => ∃ r : Int, d = .int r ∧ 0 ≤ r ∧ r < ds.length) rfl (t_cons (t_cl (P := fun x => x = [.tuple ds]) (t_cons (t_name rfl (t_nil rfl))) fun x hx => ?_))).mono ?_)) ?_
        · subst hx
          exact ⟨_, rfl, t_nil ⟨rfl, pick_ok (by omega) (by omega)⟩⟩
        · rintro d ⟨r, rfl, h2, h3⟩
          obtain ⟨k, rfl⟩ := Int.eq_ofNat_of_zero_le h2
          exact t_cons ((t_callS rfl (t_cons (t_c (t_nil ⟨rfl, pick_ok (by decide) (by decide)⟩)))).mono fun d ⟨w, e, _⟩ => t_nil ⟨k, w, by omega, by rw [e]⟩)
        · rintro xs ⟨k, w, hk, rfl⟩
          exact Tri.bind (P := (· = [PyData.int k, .int w])) (Tri.lft rfl rfl) fun ys e => by subst e; exact Tri.pure ⟨_, rfl, k, w, hk, rfl⟩
      rintro ρ ⟨k, w, hk, rfl⟩
      have ek : ds[k]? = some ds[k] := List.getElem?_eq_getElem hk
      have em : ds[k] ∈ ds := List.getElem_mem hk
      have hsp : ds = ds.take k ++ ([ds[k]] ++ ds.drop (k + 1)) := by
        rw [List.singleton_append, ← List.drop_eq_getElem_cons hk, List.take_append_drop]
      have hw0 : PyData.weightAll ds = PyData.weightAll (ds.take k) + (ds[k].weight + 1) + PyData.weightAll (ds.drop (k + 1)) := by
        have := congrArg PyData.weightAll hsp
        rw [wA_app, wA_app, wA_one] at this
        omega
      have htx : ∀ x ∈ ds, txt x = true := tA_iff.mp (by rw [← t_tupl]; exact bo.tx)
      have hdp : ∀ x ∈ ds, x.depth ≤ PyData.depthAll ds := fun x hx => dA_mem hx
      have mt : ∀ j, ∀ x ∈ ds.take j, x ∈ ds := fun j x hx => List.mem_of_mem_take hx
      have md : ∀ j, ∀ x ∈ ds.drop j, x ∈ ds := fun j x hx => List.mem_of_mem_drop hx
      have lm : ∀ xs ys : List PyData, xs.length + ys.length ≤ 1000000 → addD (.tuple xs) (.tuple ys) = some (.tuple (xs ++ ys)) := fun xs ys h => if_pos h
      have c1 : cutD (.tuple ds) none (some (k : Int)) = some (.tuple (ds.take k)) := congrArg (fun z => some (PyData.tuple z)) (cut_take ds k (by omega))
      have c2 : cutD (.tuple ds) (some ((k : Int) + 1)) none = some (.tuple (ds.drop (k + 1))) := congrArg (fun z => some (PyData.tuple z)) (cut_drop ds (k + 1) (by omega))
      have c3 : cutD (.tuple ds) none (some ((k : Int) + 1)) = some (.tuple (ds.take (k + 1))) := congrArg (fun z => some (PyData.tuple z)) (cut_take ds (k + 1) (by omega))
      have c4 : cutD (.tuple ds) (some (k : Int)) none = some (.tuple (ds.drop k)) := congrArg (fun z => some (PyData.tuple z)) (cut_drop ds k (by omega))
      have ak : addD (.int (k : Int)) (.int 1) = some (.int ((k : Int) + 1)) := rfl
      have xk : ixD (.tuple ds) (.int (k : Int)) = some ds[k] := L2.atI_nat ek
      -- what is made of parts of ds
      have mk : ∀ xs : List PyData, (∀ x ∈ xs, x.depth ≤ PyData.depthAll ds + 3 ∧ txt x = true) → PyData.weightAll xs ≤ PyData.weightAll ds + 100 → xs.length ≤ 21 → Br (.tuple ds) (.tuple xs) := fun xs h1 h2 h3 =>
        ⟨by rw [w_tup, w_tup]; exact h2, by rw [d_tup, d_tup]; have := dA_le fun x hx => (h1 x hx).1; omega, by rw [t_tupl]; exact tA_iff.mpr fun x hx => (h1 x hx).2, fun es e => by cases e; exact h3⟩
      have old : ∀ x ∈ ds, x.depth ≤ PyData.depthAll ds + 3 ∧ txt x = true := fun x hx => ⟨by have := hdp x hx; omega, htx x hx⟩
      refine t_seqX (I := fun ρ => ρ = [.src, .vl (.tuple ds), .vl (.list os), .vl (.int k), .vl (.int w)]) ?_ ?_
      · refine t_if (B := fun _ => True) (t_asB (t_op (t_name rfl rfl) (t_c rfl) fun x y hx hy => ?_)) (fun _ => ?_) fun _ => t_pass (.inl ⟨_, rfl, rfl⟩)
        · subst hx hy
          exact ⟨_, rfl, _, rfl, trivial⟩
        · refine t_ret (t_op (P := fun d => ∃ r, d = .tuple (ds.take k ++ [r]) ∧ Br ds[k] r) (Q := fun d => d = .tuple (ds.drop (k + 1))) (t_op (P := fun d => d = .tuple (ds.take k)) (Q := fun d => ∃ r, d = .tuple [r] ∧ Br ds[k] r) (Tri.eq (by simp only [mSeq, mIfS, mRet, mRetN, mPass, mOrT, mAndT, mNotT, mAsB, mIsi, mName, mOwn, mC, mOp, mOp3, mCl, mCons, mNil, mFrz, mFrzD, mSeqI, mCall, mAndV, mOrV, mNotV, mIfE, mTup, mLst, mSet, mSetF, mSetD, mPar, mUn, mUn', mCut, mP, mNoP, mIsN, mIsNot, mRng, mKeys, mYes, gSet, gTupD, gsCons, gsNil, mFz, mDrop, mAsg, mAppend, ev0, frzAt, wipeE, rdV_vl, rdB_vl, rdB_ol, rdB_od, asB_b, asI_i, seqD_l, seqD_t, lenI1, lenI2, lenI3, lft_some, pure_bind, getE0, getES, List.set_cons_zero, List.set_cons_succ, List.map_cons, List.map_nil, List.cons_append, List.nil_append, List.replicate_succ, List.replicate_zero, List.append_nil, List.length_cons, List.length_nil, if_true, if_false, ite_true, ite_false, Bool.false_eq_true, reduceIte, Bool.not_true, Bool.not_false, Nat.reduceAdd, Nat.reduceSub, List.zip_cons_cons, List.zip_nil_right, List.foldl_cons, List.foldl_nil, c1]) rfl) (t_tup (t_cons ((t_callS rfl (t_cons (t_op (P := fun d => d = .tuple ds) (Q := fun d => d = .int (k : Int)) (t_name rfl rfl) (t_name rfl rfl) fun x y hx hy => ?_))).mono fun r hr => t_nil ⟨by show (1 : Nat) ≤ 1000000; decide, r, rfl, hr⟩))) fun x y hx hy => ?_) (Tri.eq (by simp only [mSeq, mIfS, mRet, mRetN, mPass, mOrT, mAndT, mNotT, mAsB, mIsi, mName, mOwn, mC, mOp, mOp3, mCl, mCons, mNil, mFrz, mFrzD, mSeqI, mCall, mAndV, mOrV, mNotV, mIfE, mTup, mLst, mSet, mSetF, mSetD, mPar, mUn, mUn', mCut, mP, mNoP, mIsN, mIsNot, mRng, mKeys, mYes, gSet, gTupD, gsCons, gsNil, mFz, mDrop, mAsg, mAppend, ev0, frzAt, wipeE, rdV_vl, rdB_vl, rdB_ol, rdB_od, asB_b, asI_i, seqD_l, seqD_t, lenI1, lenI2, lenI3, lft_some, pure_bind, getE0, getES, List.set_cons_zero, List.set_cons_succ, List.map_cons, List.map_nil, List.cons_append, List.nil_append, List.replicate_succ, List.replicate_zero, List.append_nil, List.length_cons, List.length_nil, if_true, if_false, ite_true, ite_false, Bool.false_eq_true, reduceIte, Bool.not_true, Bool.not_false, Nat.reduceAdd, Nat.reduceSub, List.zip_cons_cons, List.zip_nil_right, List.foldl_cons, List.foldl_nil, ak, c2]) rfl) fun x y hx hy => ?_)
          · subst hx hy
            exact ⟨_, xk, t_cons (t_name rfl (t_nil ⟨rfl, bent_ok ho n _ (he _ em).2⟩))⟩
          · obtain ⟨r, rfl, hr⟩ := hy
            subst hx
            exact ⟨_, lm _ _ (by rw [List.length_take]; simp; omega), r, rfl, hr⟩
          · obtain ⟨r, rfl, hr⟩ := hx
            subst hy
            refine ⟨_, lm _ _ (by simp; omega), .inr ⟨_, rfl, _, rfl, mk _ (fun x hx => ?_) ?_ ?_⟩⟩
            · rcases List.mem_append.mp hx with hx | hx
              · rcases List.mem_append.mp hx with hx | hx
                · exact old x (mt _ x hx)
                · rw [List.mem_singleton.mp hx]
                  exact ⟨by have := hr.dp; have := hdp _ em; omega, hr.tx⟩
              · exact old x (md _ x hx)
            · rw [wA_app, wA_app, wA_one]
              have := hr.w
              omega
            · simp; omega
      rintro ρ rfl
      have eA : mOp addD (mCut cutD (mName 1) (mNoP) (mP (mName 3))) (mCut cutD (mName 1) (mP (mOp addD (mName 3) (mC (.int 1)))) (mNoP)) [.src, .vl (.tuple ds), .vl (.list os), .vl (.int k), .vl (.int w)] = pure (.tuple (ds.take k ++ ds.drop (k + 1))) := by
        simp only [mSeq, mIfS, mRet, mRetN, mPass, mOrT, mAndT, mNotT, mAsB, mIsi, mName, mOwn, mC, mOp, mOp3, mCl, mCons, mNil, mFrz, mFrzD, mSeqI, mCall, mAndV, mOrV, mNotV, mIfE, mTup, mLst, mSet, mSetF, mSetD, mPar, mUn, mUn', mCut, mP, mNoP, mIsN, mIsNot, mRng, mKeys, mYes, gSet, gTupD, gsCons, gsNil, mFz, mDrop, mAsg, mAppend, ev0, frzAt, wipeE, rdV_vl, rdB_vl, rdB_ol, rdB_od, asB_b, asI_i, seqD_l, seqD_t, lenI1, lenI2, lenI3, lft_some, pure_bind, getE0, getES, List.set_cons_zero, List.set_cons_succ, List.map_cons, List.map_nil, List.cons_append, List.nil_append, List.replicate_succ, List.replicate_zero, List.append_nil, List.length_cons, List.length_nil, if_true, if_false, ite_true, ite_false, Bool.false_eq_true, reduceIte, Bool.not_true, Bool.not_false, Nat.reduceAdd, Nat.reduceSub, List.zip_cons_cons, List.zip_nil_right, List.foldl_cons, List.foldl_nil, c1, c2, ak, lm _ _ (show (ds.take k).length + (ds.drop (k + 1)).length ≤ 1000000 by rw [List.length_take, List.length_drop]; omega)]
      have eB : mOp addD (mCut cutD (mName 1) (mNoP) (mP (mOp addD (mName 3) (mC (.int 1))))) (mCut cutD (mName 1) (mP (mName 3)) (mNoP)) [.src, .vl (.tuple ds), .vl (.list os), .vl (.int k), .vl (.int w)] = pure (.tuple (ds.take (k + 1) ++ ds.drop k)) := by
        simp only [mSeq, mIfS, mRet, mRetN, mPass, mOrT, mAndT, mNotT, mAsB, mIsi, mName, mOwn, mC, mOp, mOp3, mCl, mCons, mNil, mFrz, mFrzD, mSeqI, mCall, mAndV, mOrV, mNotV, mIfE, mTup, mLst, mSet, mSetF, mSetD, mPar, mUn, mUn', mCut, mP, mNoP, mIsN, mIsNot, mRng, mKeys, mYes, gSet, gTupD, gsCons, gsNil, mFz, mDrop, mAsg, mAppend, ev0, frzAt, wipeE, rdV_vl, rdB_vl, rdB_ol, rdB_od, asB_b, asI_i, seqD_l, seqD_t, lenI1, lenI2, lenI3, lft_some, pure_bind, getE0, getES, List.set_cons_zero, List.set_cons_succ, List.map_cons, List.map_nil, List.cons_append, List.nil_append, List.replicate_succ, List.replicate_zero, List.append_nil, List.length_cons, List.length_nil, if_true, if_false, ite_true, ite_false, Bool.false_eq_true, reduceIte, Bool.not_true, Bool.not_false, Nat.reduceAdd, Nat.reduceSub, List.zip_cons_cons, List.zip_nil_right, List.foldl_cons, List.foldl_nil, c3, c4, ak, lm _ _ (show (ds.take (k + 1)).length + (ds.drop k).length ≤ 1000000 by rw [List.length_take, List.length_drop]; omega)]
      have eC : mUn' revD (mName 1) [.src, .vl (.tuple ds), .vl (.list os), .vl (.int k), .vl (.int w)] = pure (.tuple ds.reverse) := rfl
      have eD : mFrz (mCl listL (mCons (mName 1) (mNil))) [.src, .vl (.tuple ds), .vl (.list os), .vl (.int k), .vl (.int w)] = pure (.list ds) := rfl
      have hof : Tri (mf_law_of [.list [PyData.tuple (ds.take k ++ ds.drop (k + 1)), .tuple (ds.take (k + 1) ++ ds.drop k), .tuple ds.reverse, .list ds]]) fun d => d ∈ [PyData.tuple (ds.take k ++ ds.drop (k + 1)), .tuple (ds.take (k + 1) ++ ds.drop k), .tuple ds.reverse, .list ds] := of_ok (by simp) (by show (4 : Nat) ≤ 1000000; decide)
      refine t_ret (Tri.mono (t_callS rfl (t_cons (t_frz (t_lst (t_cons (Tri.eq eA (t_cons (Tri.eq eB (t_cons (Tri.eq eC (t_cons (Tri.eq eD (t_nil ⟨by show (4 : Nat) ≤ 1000000; decide, t_nil ⟨rfl, hof⟩⟩))))))))))))) fun d hd => ⟨d, rfl, ?_⟩)
      simp only [List.mem_cons, List.not_mem_nil, or_false] at hd
      have hek := (he _ em).1
      rcases hd with rfl | rfl | rfl | rfl
      · refine mk _ (fun x hx => ?_) (by rw [wA_app]; omega) (by simp; omega)
        rcases List.mem_append.mp hx with hx | hx
        · exact old x (mt _ x hx)
        · exact old x (md _ x hx)
      · refine mk _ (fun x hx => ?_) ?_ (by simp; omega)
        · rcases List.mem_append.mp hx with hx | hx
          · exact old x (mt _ x hx)
          · exact old x (md _ x hx)
        · rw [wA_app, List.take_add_one, ek, wA_app, List.drop_eq_getElem_cons hk]
          simp only [Option.toList_some, wA_one, PyData.weightAll]
          omega
      · refine mk _ (fun x hx => old x (List.mem_reverse.mp hx)) (by rw [wA_rev]; omega) (by simp; omega)
      · exact ⟨by rw [w_lst, w_tup]; omega, by rw [d_lst, d_tup]; omega, by rw [t_lstl]; exact tA_iff.mpr htx, fun es e => by cases e⟩
    · refine t_seqX (I := fun _ => False) ?_ fun _ h => h.elim
      refine t_if (B := fun b => b = true) ?_ (fun _ => (oddT rfl rfl).mono fun fl ⟨d, e, h⟩ => .inr ⟨d, e, d, rfl, h⟩) fun h => nomatch h
      cases v with
      | tuple ds => exact absurd ⟨ds, rfl⟩ ht
      | none => exact Tri.eq (a := true) rfl rfl
      | bool b => exact Tri.eq (a := true) rfl rfl
      | str b => exact Tri.eq (a := true) rfl rfl
      | list b => exact Tri.eq (a := true) rfl rfl
      | int b => exact Tri.eq (a := true) rfl rfl
      | dict b => exact Tri.eq (a := true) rfl rfl
end K32
end

section
set_option Elab.async false
set_option linter.all false
set_option maxRecDepth 100000
set_option maxHeartbeats 4000000
namespace K32
open PySem PySem.Spec PyProof.Rows L2 DL
structure VOk (v : PyData) : Prop where
  bo : Bo 800 45 v
  len : ∀ ds, v = .tuple ds → ds.length ≤ 40
theorem int_wt {q : Int} (h : (PyData.int q).weight ≤ 899) : q.natAbs < 2 ^ 900 := by
  by_cases h0 : q = 0
  · subst h0; decide +kernel
  · have e : (PyData.int q).weight = q.natAbs.log2 + 1 := by
      simp only [PyData.weight]
      rw [if_neg (by simpa using h0)]
    have h1 : q.natAbs < 2 ^ (q.natAbs.log2 + 1) := Nat.lt_log2_self
    exact Nat.lt_of_lt_of_le h1 (Nat.pow_le_pow_right (by decide) (by omega))
theorem small_of {c : PyData} (h : c.weight ≤ 899) : Small2 c := fun p q e => by
  subst e
  rw [w_tup] at h
  simp only [PyData.weightAll] at h
  exact int_wt (by simp only [PyData.weight] at h ⊢; omega)
theorem wA_mem : ∀ {xs : List PyData} {x : PyData}, x ∈ xs → x.weight + 1 ≤ PyData.weightAll xs
  | y :: ys, x, h => by
    simp only [PyData.weightAll]
    rcases List.mem_cons.mp h with rfl | h
    · omega
    · have := wA_mem h; omega
theorem VOk.pairs {v : PyData} (h : VOk v) : ∀ ds, v = .tuple ds → ds.length ≤ 1000000 ∧ ∀ i c, .tuple [i, c] ∈ ds → Small2 c := fun ds e => by
  have hl := h.len ds e
  refine ⟨by omega, fun i c hc => small_of ?_⟩
  have h1 := h.bo.w
  rw [e, w_tup] at h1
  have h2 := wA_mem hc
  rw [w_tup] at h2
  simp only [PyData.weightAll] at h2
  omega
theorem VOk.poly {v : PyData} (h : VOk v) : mf_is_poly [v] = pure (.bool (isPoly v)) ∧ mf_law_is_poly [v] = pure (.bool (isPoly v)) :=
  ⟨is_poly_ok v fun ds e => (h.pairs ds e).1, law_is_poly_ok v h.pairs⟩
theorem VOk.frac {v : PyData} (h : VOk v) : mf_is_fraction [v] = pure (.bool (isFrac v)) ∧ mf_law_is_fraction [v] = pure (.bool (isFrac v)) :=
  ⟨is_fraction_ok v, law_is_fraction_ok v (small_of (by have := h.bo.w; omega))⟩
theorem VOk.tm {v : PyData} (h : VOk v) : Tm v := ⟨by have := h.bo.w; omega, by have := h.bo.dp; omega, h.bo.tx⟩
theorem judge_form {D : List (Int × PyData)} {v : PyData} (h : mf_is_poly [v] = pure (.bool false)) : mf_judge_poly [.tuple (D.map pk), v] = pure (.tuple [.str "form"]) := by
  refine fn_rt ?_
  have s1 : ∀ a : PyData, sz [a] = some [a] := fun _ => rfl
  unfold m_judge_poly
  rw [mSeq]
  simp [mSeq, mIfS, mRet, mRetN, mPass, mOrT, mAndT, mNotT, mAsB, mIsi, mName, mOwn, mC, mOp, mOp3, mCl, mCons, mNil, mFrz, mFrzD, mSeqI, mCall, mAndV, mOrV, mNotV, mIfE, mTup, mLst, mSet, mSetF, mSetD, mPar, mUn, mUn', mCut, mP, mNoP, mIsN, mIsNot, mRng, mKeys, mYes, gSet, gTupD, gsCons, gsNil, mFz, mDrop, mAsg, mAppend, ev0, frzAt, wipeE, rdV_vl, rdB_vl, rdB_ol, rdB_od, asB_b, asI_i, seqD_l, seqD_t, lenI1, lenI2, lenI3, lft_some, pure_bind, getE0, getES, List.set_cons_zero, List.set_cons_succ, List.map_cons, List.map_nil, List.cons_append, List.nil_append, List.replicate_succ, List.replicate_zero, List.append_nil, List.length_cons, List.length_nil, if_true, if_false, ite_true, ite_false, Bool.false_eq_true, reduceIte, Bool.not_true, Bool.not_false, Nat.reduceAdd, Nat.reduceSub, List.zip_cons_cons, List.zip_nil_right, List.foldl_cons, List.foldl_nil, h, s1]
theorem fault_form {D : List (Int × PyData)} {v : PyData} (h : mf_law_is_poly [v] = pure (.bool false)) : mf_law_fault [.tuple (D.map pk), v] = pure (.tuple [.str "form"]) := by
  refine fn_rt ?_
  have s1 : ∀ a : PyData, sz [a] = some [a] := fun _ => rfl
  unfold m_law_fault
  rw [mSeq]
  simp [mSeq, mIfS, mRet, mRetN, mPass, mOrT, mAndT, mNotT, mAsB, mIsi, mName, mOwn, mC, mOp, mOp3, mCl, mCons, mNil, mFrz, mFrzD, mSeqI, mCall, mAndV, mOrV, mNotV, mIfE, mTup, mLst, mSet, mSetF, mSetD, mPar, mUn, mUn', mCut, mP, mNoP, mIsN, mIsNot, mRng, mKeys, mYes, gSet, gTupD, gsCons, gsNil, mFz, mDrop, mAsg, mAppend, ev0, frzAt, wipeE, rdV_vl, rdB_vl, rdB_ol, rdB_od, asB_b, asI_i, seqD_l, seqD_t, lenI1, lenI2, lenI3, lft_some, pure_bind, getE0, getES, List.set_cons_zero, List.set_cons_succ, List.map_cons, List.map_nil, List.cons_append, List.nil_append, List.replicate_succ, List.replicate_zero, List.append_nil, List.length_cons, List.length_nil, if_true, if_false, ite_true, ite_false, Bool.false_eq_true, reduceIte, Bool.not_true, Bool.not_false, Nat.reduceAdd, Nat.reduceSub, List.zip_cons_cons, List.zip_nil_right, List.foldl_cons, List.foldl_nil, h, s1]
theorem POk.nd {D : List (Int × PyData)} (h : POk D) : (D.map (·.1)).Nodup := h.pw.imp fun h => by omega
theorem POk.frs {D : List (Int × PyData)} (h : POk D) : ∀ e ∈ D, isFrac e.2 = true := fun e he => (h.fr e he).fr
theorem int_w5 {i : Int} (h : -3 ≤ i ∧ i ≤ 5) : (PyData.int i).weight ≤ 3 := by
  have : ∀ j ∈ [(-3 : Int), -2, -1, 0, 1, 2, 3, 4, 5], (PyData.int j).weight ≤ 3 := by decide +kernel
  exact this i (by simp only [List.mem_cons, List.not_mem_nil, or_false]; omega)
theorem res_tm {D : List (Int × PyData)} (h : POk D) (W : List Int) (hw : ∀ i ∈ W, (PyData.int i).weight ≤ 800) : Tm (resD D W) := by
  cases W with
  | nil => exact ⟨by simp [resD, PyData.weight], by simp [resD, PyData.depth], by simp [resD, txt]⟩
  | cons i W =>
    have h1 := hw i List.mem_cons_self
    obtain ⟨p, q, e, hg⟩ := gv_ex h.frs i
    have hb : (gv D i).weight ≤ 50 ∧ (gv D i).depth ≤ 1 ∧ txt (gv D i) = true := by
      rcases hg with hg | ⟨x, hx, hg⟩
      · rw [hg]; exact ⟨by decide +kernel, by decide +kernel, by decide +kernel⟩
      · rw [hg]; exact ⟨(h.fr x hx).w, (h.fr x hx).dp, (h.fr x hx).tx⟩
    have hs : (PyData.str "power").weight ≤ 10 ∧ (PyData.str "power").depth = 0 ∧ txt (.str "power") = true := ⟨by decide +kernel, by decide +kernel, by decide +kernel⟩
    refine ⟨?_, ?_, ?_⟩
    · show (PyData.tuple [.str "power", .int i, gv D i]).weight ≤ 900
      rw [w_tup]
      simp only [PyData.weightAll]
      omega
    · show (PyData.tuple [.str "power", .int i, gv D i]).depth ≤ 50
      rw [d_tup]
      have : PyData.depthAll [.str "power", .int i, gv D i] ≤ 1 := dA_le fun x hx => by
        simp only [List.mem_cons, List.not_mem_nil, or_false] at hx
        rcases hx with rfl | rfl | rfl
        · omega
        · simp [PyData.depth]
        · exact hb.2.1
      omega
    · show txt (.tuple [.str "power", .int i, gv D i]) = true
      rw [t_tupl]
      exact tA_iff.mpr fun x hx => by
        simp only [List.mem_cons, List.not_mem_nil, or_false] at hx
        rcases hx with rfl | rfl | rfl
        · exact hs.2.2
        · simp [txt]
        · exact hb.2.2
theorem agree {D : List (Int × PyData)} (hD : POk D) {v : PyData} (hv : VOk v) : ∃ r, mf_judge_poly [.tuple (D.map pk), v] = pure r ∧ mf_law_fault [.tuple (D.map pk), v] = pure r ∧ Tm r := by
  have hp := hv.poly
  cases h : isPoly v with
  | false =>
    rw [h] at hp
    exact ⟨_, judge_form hp.1, fault_form hp.2, ⟨by decide +kernel, by decide +kernel, by decide +kernel⟩⟩
  | true =>
    obtain ⟨V, rfl, fV, nV⟩ := poly_ex h
    have hl := hv.len _ rfl
    rw [List.length_map] at hl
    have hl2 := hD.len
    obtain ⟨X, hX, lX, mX⟩ := dmerge_mem D V
    have wV : ∀ e ∈ V, (PyData.int e.1).weight ≤ 800 ∧ e.2.weight ≤ 800 := fun e he => by
      have h1 := hv.bo.w
      rw [w_tup] at h1
      have h2 := wA_mem (List.mem_map.mpr ⟨e, he, rfl⟩ : pk e ∈ V.map pk)
      rw [w_tup] at h2
      simp only [PyData.weightAll] at h2
      omega
    refine ⟨_, judge_res hD.frs fV hD.nd nV h (by omega) hX (by omega), fault_res hD.frs fV hD.nd nV h (by omega) hX (by omega) (fun e he => small_of (by have := (wV e he).2; omega)), res_tm hD _ fun i hi => ?_⟩
    have hi2 := (List.mem_filter.mp ((sortI_perm _).mem_iff.mp hi)).1
    obtain ⟨e, he, rfl⟩ := List.mem_map.mp hi2
    rcases (mX e he).1 with ⟨x, hx, ex⟩ | ⟨x, hx, ex⟩
    · rw [ex]; exact (wV x hx).1
    · rw [ex]; have := int_w5 (hD.rg x hx); omega
theorem pk_w {D : List (Int × PyData)} (h : POk D) : ∀ e ∈ D, (pk e).weight ≤ 55 ∧ (pk e).depth ≤ 2 ∧ txt (pk e) = true := fun e he => by
  have h1 := h.fr e he
  have h2 := int_w5 (h.rg e he)
  refine ⟨?_, ?_, ?_⟩
  · rw [w_tup]
    simp only [PyData.weightAll]
    have := h1.w
    omega
  · rw [d_tup]
    have : PyData.depthAll [.int e.1, e.2] ≤ 1 := dA_le fun x hx => by
      simp only [List.mem_cons, List.not_mem_nil, or_false] at hx
      rcases hx with rfl | rfl
      · simp [PyData.depth]
      · exact h1.dp
    omega
  · rw [t_tupl]
    exact tA_iff.mpr fun x hx => by
      simp only [List.mem_cons, List.not_mem_nil, or_false] at hx
      rcases hx with rfl | rfl
      · simp [txt]
      · exact h1.tx
theorem wA_le {b : Nat} : ∀ {xs : List PyData}, (∀ x ∈ xs, x.weight ≤ b) → PyData.weightAll xs ≤ (b + 1) * xs.length
  | [], _ => by simp [PyData.weightAll]
  | x :: xs, h => by
    have h1 := h x List.mem_cons_self
    have h2 := wA_le fun y hy => h y (List.mem_cons_of_mem x hy)
    simp only [PyData.weightAll, List.length_cons, Nat.mul_add, Nat.mul_one]
    omega
theorem tup_vok {xs : List PyData} (hl : xs.length ≤ 40) (hw : PyData.weightAll xs ≤ 800) (h : ∀ x ∈ xs, x.depth ≤ 44 ∧ txt x = true) : VOk (.tuple xs) :=
  ⟨Bo.tup (dp := 44) hw (fun x hx => (h x hx).1) fun x hx => (h x hx).2, fun ds e => by cases e; exact hl⟩
theorem poly_vok {D : List (Int × PyData)} (h : POk D) : VOk (.tuple (D.map pk)) := by
  have hl := h.len
  have hm : ∀ x ∈ D.map pk, x.weight ≤ 55 ∧ x.depth ≤ 2 ∧ txt x = true := fun x hx => by
    obtain ⟨e, he, rfl⟩ := List.mem_map.mp hx
    exact pk_w h e he
  refine tup_vok (by rw [List.length_map]; omega) ?_ fun x hx => ⟨by have := (hm x hx).2.1; omega, (hm x hx).2.2⟩
  have := wA_le fun x hx => (hm x hx).1
  rw [List.length_map] at this
  omega
end K32
end

section
set_option Elab.async false
set_option linter.all false
set_option maxRecDepth 100000
set_option maxHeartbeats 4000000
namespace K32
open PySem PySem.Spec PyProof.Rows L2 DL
theorem neD_str (s : Str) : neD (.str s) (.str s) = some (.bool false) := by
  unfold neD eqF
  rw [if_pos ⟨rfl, rfl, .inl (by simp [PyData.depth])⟩]
  simp [PyData.eqv]
theorem bools_tm (a b : Bool) : Tm (.list [.bool a, .bool b]) := by
  cases a <;> cases b <;> exact ⟨by decide +kernel, by decide +kernel, by decide +kernel⟩
def mBody : Ev → M Fl := mSeq (mPar [10, 11] (mCons (mCl reprL (mCons (mName 9) (mNil))) (mCons (mCall 2 mf_law_fault (mCons (mName 4) (mCons (mName 9) (mNil)))) (mNil)))) (mSeq (mIfS (mOrT (mAsB (mOp neD (mCl reprL (mCons (mCall 2 mf_judge_poly (mCons (mName 4) (mCons (mName 9) (mNil)))) (mNil))) (mCl reprL (mCons (mName 11) (mNil))))) (mAsB (mOp neD (mCl reprL (mCons (mName 9) (mNil))) (mName 10)))) (mRet (mC (.bool false))) (mPass)) (mIfS (mAsB (mOp neD (mCl reprL (mCons (mFrz (mLst (mCons (mCall 1 mf_is_poly (mCons (mName 9) (mNil))) (mCons (mCall 1 mf_is_fraction (mCons (mName 9) (mNil))) (mNil))))) (mNil))) (mCl reprL (mCons (mFrz (mLst (mCons (mCall 1 mf_law_is_poly (mCons (mName 9) (mNil))) (mCons (mCall 1 mf_law_is_fraction (mCons (mName 9) (mNil))) (mNil))))) (mNil))))) (mRet (mC (.bool false))) (mPass)))
theorem body_ok {D : List (Int × PyData)} (hD : POk D) {v : PyData} (hv : VOk v) (x0 x1 x2 x3 x5 x6 x7 x8 x10 x11 x12 x13 x14 x15 x16 : Sl) :
    ∃ y10 y11, mBody [x0, x1, x2, x3, .vl (.tuple (D.map pk)), x5, x6, x7, x8, .vl v, x10, x11, x12, x13, x14, x15, x16] = pure (.nx [x0, x1, x2, x3, .vl (.tuple (D.map pk)), x5, x6, x7, x8, .vl v, y10, y11, x12, x13, x14, x15, x16]) := by
  obtain ⟨r, hj, hf, hr⟩ := agree hD hv
  have h1 := hr.repr
  have h2 := hv.tm.repr
  have h3 := hv.poly
  have h4 := hv.frac
  have h5 := (bools_tm (isPoly v) (isFrac v)).repr
  have s2 : ∀ a b : PyData, sz [a, b] = some [a, b] := fun _ _ => rfl
  refine ⟨.vl (.str v.shown), .vl r, ?_⟩
  generalize D.map pk = dl at *
  unfold mBody
  simp only [mSeq, mIfS, mRet, mRetN, mPass, mOrT, mAndT, mNotT, mAsB, mIsi, mName, mOwn, mC, mOp, mOp3, mCl, mCons, mNil, mFrz, mFrzD, mSeqI, mCall, mAndV, mOrV, mNotV, mIfE, mTup, mLst, mSet, mSetF, mSetD, mPar, mUn, mUn', mCut, mP, mNoP, mIsN, mIsNot, mRng, mKeys, mYes, gSet, gTupD, gsCons, gsNil, mFz, mDrop, mAsg, mAppend, ev0, frzAt, wipeE, rdV_vl, rdB_vl, rdB_ol, rdB_od, asB_b, asI_i, seqD_l, seqD_t, lenI1, lenI2, lenI3, lft_some, pure_bind, getE0, getES, List.set_cons_zero, List.set_cons_succ, List.map_cons, List.map_nil, List.cons_append, List.nil_append, List.replicate_succ, List.replicate_zero, List.append_nil, List.length_cons, List.length_nil, if_true, if_false, ite_true, ite_false, Bool.false_eq_true, reduceIte, Bool.not_true, Bool.not_false, Nat.reduceAdd, Nat.reduceSub, List.zip_cons_cons, List.zip_nil_right, List.foldl_cons, List.foldl_nil, hj, hf, h1, h2, h3.1, h3.2, h4.1, h4.2, h5, s2, neD_str]
theorem self_none {D : List (Int × PyData)} (hD : POk D) : mf_judge_poly [.tuple (D.map pk), .tuple (D.map pk)] = pure .none := by
  have hv := poly_vok hD
  have hp : isPoly (.tuple (D.map pk)) = true := by
    have e : D.map pk = (D.map fun e => (PyData.int e.1, e.2)).map pr := by rw [List.map_map]; rfl
    rw [e, isPoly_pr, Bool.and_eq_true]
    constructor
    · refine List.all_eq_true.mpr fun x hx => ?_
      obtain ⟨y, hy, rfl⟩ := List.mem_map.mp hx
      obtain ⟨z, hz, rfl⟩ := List.mem_map.mp hy
      have := hD.fr z hz
      show okE (.int z.1) z.2 = true
      unfold okE
      rw [this.fr, this.nz]; rfl
    · rw [List.map_map]
      have e2 : (D.map (keyI ∘ fun e => (PyData.int e.1, e.2))) = D.map (·.1) := rfl
      rw [e2, rise_iff]
      intro k a b h1 h2
      have h3 := List.pairwise_iff_getElem.mp hD.pw
      obtain ⟨l1, e1⟩ := List.getElem?_eq_some_iff.mp h1
      obtain ⟨l2, e2⟩ := List.getElem?_eq_some_iff.mp h2
      have := h3 k (k + 1) l1 l2 (by omega)
      omega
  have hl := hD.len
  obtain ⟨X, hX, lX, mX⟩ := dmerge_mem D D
  rw [judge_res hD.frs hD.frs hD.nd hD.nd hp (by omega) hX (by omega)]
  have e : (X.map (·.1)).filter (dif D D) = [] := List.filter_eq_nil_iff.mpr fun i _ => by
    obtain ⟨p, q, hg, _⟩ := gv_ex hD.frs i
    unfold dif
    rw [hg]
    simp
  have e0 : sortI [] = [] := (sortI_uniq (List.Perm.refl _) List.Pairwise.nil).symm
  rw [e, e0]; rfl
end K32
end

section
set_option Elab.async false
set_option linter.all false
set_option maxRecDepth 100000
set_option maxHeartbeats 400000
namespace K32
open PySem PySem.Spec PyProof.Rows L2 DL
theorem last_ok (ρ : Ev) : mRet (mAndV (mIsN (mCall 2 mf_judge_poly (mCons (mTup (mNil)) (mCons (mTup (mNil)) (mNil))))) (mOp eqD (mCall 2 mf_judge_poly (mCons (mTup (mNil)) (mCons (mTup (mCons (mTup (mCons (mC (.int 0)) (mCons (mTup (mCons (mC (.int 1)) (mCons (mC (.int 1)) (mNil)))) (mNil)))) (mNil))) (mNil)))) (mTup (mCons (mC (.str "power")) (mCons (mC (.int 0)) (mCons (mTup (mCons (mC (.int 0)) (mCons (mC (.int 1)) (mNil)))) (mNil)))))) ) ρ = pure (.rt (.bool true)) := by
  have hN : POk [] := ⟨(fun e h => nomatch h), (fun e h => nomatch h), List.Pairwise.nil, by decide⟩
  have j1 : mf_judge_poly [.tuple [], .tuple []] = pure .none := by
    have h := self_none hN
    rw [List.map_nil] at h
    exact h
  have j2 : mf_judge_poly [.tuple [], .tuple [.tuple [.int 0, .tuple [.int 1, .int 1]]]] = pure (.tuple [.str "power", .int 0, .tuple [.int 0, .int 1]]) := by
    have h := judge_res (D := []) (V := [(0, .tuple [.int 1, .int 1])]) (X := [(0, .tuple [.int 1, .int 1])]) (fun e h => nomatch h) (fun e h => by rw [List.mem_singleton.mp h]; decide +kernel) List.Pairwise.nil (by simp) (by decide +kernel) (by decide) rfl (by decide)
    have e : ([((0 : Int), PyData.tuple [.int 1, .int 1])].map (·.1)).filter (dif [] [(0, .tuple [.int 1, .int 1])]) = [0] := by decide +kernel
    have e2 : sortI [0] = [0] := (sortI_uniq (List.Perm.refl _) (by simp)).symm
    have e3 : resD [] [0] = .tuple [.str "power", .int 0, .tuple [.int 0, .int 1]] := rfl
    rw [e, e2, e3, List.map_nil, List.map_cons, List.map_nil] at h
    exact h
  have s0 : sz ([] : List PyData) = some [] := rfl
  have s1 : ∀ a : PyData, sz [a] = some [a] := fun _ => rfl
  have s2 : ∀ a b : PyData, sz [a, b] = some [a, b] := fun _ _ => rfl
  have s3 : ∀ a b c : PyData, sz [a, b, c] = some [a, b, c] := fun _ _ _ => rfl
  have q : eqD (.tuple [.str "power", .int 0, .tuple [.int 0, .int 1]]) (.tuple [.str "power", .int 0, .tuple [.int 0, .int 1]]) = some (.bool true) := by
    unfold eqD eqF
    rw [if_pos ⟨by decide +kernel, by decide +kernel, .inl (by decide +kernel)⟩]
    simp [PyData.eqv, PyData.eqvAll]
  simp only [mSeq, mIfS, mRet, mRetN, mPass, mOrT, mAndT, mNotT, mAsB, mIsi, mName, mOwn, mC, mOp, mOp3, mCl, mCons, mNil, mFrz, mFrzD, mSeqI, mCall, mAndV, mOrV, mNotV, mIfE, mTup, mLst, mSet, mSetF, mSetD, mPar, mUn, mUn', mCut, mP, mNoP, mIsN, mIsNot, mRng, mKeys, mYes, gSet, gTupD, gsCons, gsNil, mFz, mDrop, mAsg, mAppend, ev0, frzAt, wipeE, rdV_vl, rdB_vl, rdB_ol, rdB_od, asB_b, asI_i, seqD_l, seqD_t, lenI1, lenI2, lenI3, lft_some, pure_bind, getE0, getES, List.set_cons_zero, List.set_cons_succ, List.map_cons, List.map_nil, List.cons_append, List.nil_append, List.replicate_succ, List.replicate_zero, List.append_nil, List.length_cons, List.length_nil, if_true, if_false, ite_true, ite_false, Bool.false_eq_true, reduceIte, Bool.not_true, Bool.not_false, Nat.reduceAdd, Nat.reduceSub, List.zip_cons_cons, List.zip_nil_right, List.foldl_cons, List.foldl_nil, j1, j2, s0, s1, s2, s3, q, isN]
end K32
end

section
set_option Elab.async false
set_option linter.all false
set_option maxRecDepth 100000
set_option maxHeartbeats 1000000
namespace K32
open PySem PySem.Spec PyProof.Rows L2 DL
def oddL : List PyData := [.none, .bool true, .int 0, .int 1, .int (-1), .int 2, .str "a", .tuple [], .tuple [.int 0], .tuple [.int 1], .tuple [.int 0, .int 1], .tuple [.int 1, .int 0], .tuple [.int 2, .int 4], .tuple [.tuple [.int 0, .tuple [.int 1, .int 1]]], .list [], .dict [], .int 100000000000000000000]
def oddB (o : PyData) : Bool := decide (o.weight ≤ 100) && decide (o.depth ≤ 3) && txt o && (match o with | .tuple ds => decide (ds.length ≤ 21) | _ => true)
theorem odd_all : oddL.all oddB = true := by decide +kernel
theorem odd_ok : OddOk oddL := by
  have h : ∀ o ∈ oddL, oddB o = true := List.all_eq_true.mp odd_all
  refine ⟨by simp [oddL], by decide, fun o ho => ?_, fun o ho ds e => ?_⟩
  · have := h o ho
    unfold oddB at this
    simp only [Bool.and_eq_true, decide_eq_true_eq] at this
    exact ⟨this.1.1.1, this.1.1.2, this.1.2⟩
  · have := h o ho
    subst e
    unfold oddB at this
    simp only [Bool.and_eq_true, decide_eq_true_eq] at this
    exact this.2
theorem bd_int {n : Nat} {i : Int} (h : (PyData.int i).weight ≤ 700) : Bd (n + 1) (.int i) := ⟨by simp [PyData.plain], ⟨h, by simp [PyData.depth], by simp [txt]⟩, fun ds e => by cases e⟩
theorem bd_frac {n : Nat} {d : PyData} (h : FrOk d) : Bd (n + 2) d := by
  obtain ⟨p, q, rfl⟩ := frac_ex h.fr
  have hw := h.w
  rw [w_tup] at hw
  simp only [PyData.weightAll] at hw
  refine ⟨h.pl, ⟨by have := h.w; omega, by have := h.dp; omega, h.tx⟩, fun ds e => ?_⟩
  cases e
  refine ⟨by show (2 : Nat) ≤ 20; decide, fun x hx => ?_⟩
  simp only [List.mem_cons, List.not_mem_nil, or_false] at hx
  rcases hx with rfl | rfl
  · exact ⟨by omega, bd_int (by omega)⟩
  · exact ⟨by omega, bd_int (by omega)⟩
theorem bd_pk {n : Nat} {D : List (Int × PyData)} (h : POk D) : ∀ e ∈ D, Bd (n + 3) (pk e) := fun e he => by
  have h1 := h.fr e he
  have h2 := int_w5 (h.rg e he)
  have h3 := pk_w h e he
  refine ⟨by simp [PyData.plain, PyData.plainAll, h1.pl], ⟨by have := h3.1; omega, by have := h3.2.1; omega, h3.2.2⟩, fun ds e2 => ?_⟩
  cases e2
  refine ⟨by show (2 : Nat) ≤ 20; decide, fun x hx => ?_⟩
  simp only [List.mem_cons, List.not_mem_nil, or_false] at hx
  rcases hx with rfl | rfl
  · exact ⟨by omega, bd_int (by omega)⟩
  · exact ⟨by have := h1.w; omega, bd_frac h1⟩
theorem plainAll_iff : ∀ {xs : List PyData}, (∀ x ∈ xs, x.plain = true) → PyData.plainAll xs = true
  | [], _ => by simp [PyData.plainAll]
  | x :: xs, h => by
    simp only [PyData.plainAll, h x List.mem_cons_self, plainAll_iff fun y hy => h y (List.mem_cons_of_mem x hy), Bool.and_self]
theorem bd_due {n : Nat} {D : List (Int × PyData)} (h : POk D) : Bd (n + 4) (.tuple (D.map pk)) := by
  have hm : ∀ x ∈ D.map pk, Bd (n + 3) x ∧ x.weight ≤ 60 ∧ x.depth ≤ 2 ∧ txt x = true := fun x hx => by
    obtain ⟨e, he, rfl⟩ := List.mem_map.mp hx
    have := pk_w h e he
    exact ⟨bd_pk h e he, by omega, this.2.1, this.2.2⟩
  have hl := h.len
  have hw := wA_le fun x hx => (hm x hx).2.1
  rw [List.length_map] at hw
  refine ⟨by simp only [PyData.plain]; exact plainAll_iff fun x hx => (hm x hx).1.1, (Bo.tup (w := 700) (dp := 2) (by omega) (fun x hx => (hm x hx).2.2.1) fun x hx => (hm x hx).2.2.2).mono (by omega) (by omega), fun ds e => ?_⟩
  cases e
  exact ⟨by rw [List.length_map]; omega, fun x hx => ⟨(hm x hx).2.1, (hm x hx).1⟩⟩
theorem t_forIx {f : PyData → Ev → M Fl} {I : Nat → Ev → Prop} : ∀ (ds : List PyData) {j : Nat} {ρ : Ev}, I j ρ → (∀ j d ρ, I j ρ → Tri (f d ρ) fun fl => ∃ ρ', fl = .nx ρ' ∧ I (j + 1) ρ') → Tri (forM ds f ρ) fun fl => ∃ ρ', fl = .nx ρ' ∧ I (j + ds.length) ρ'
  | [], j, ρ, h, _ => Tri.pure ⟨ρ, rfl, h⟩
  | d :: ds, j, ρ, h, hf => Tri.bind (hf j d ρ h) fun fl ⟨ρ', e, p⟩ => by
    subst e
    have := t_forIx ds p hf
    rw [List.length_cons, show j + (ds.length + 1) = j + 1 + ds.length by omega]
    exact this
structure Dp (j : Nat) (x : PyData) : Prop where
  bo : Bo (100 + j) (3 + j) x
  len : ∀ ds, x = .tuple ds → ds.length ≤ 21
theorem Dp.lst {j : Nat} {x : PyData} (h : Dp j x) : Dp (j + 1) (.list [x]) := ⟨(Bo.lst (dp := 3 + j) (w := 100 + (j + 1)) (by rw [wA_one]; have := h.bo.w; omega) (fun y hy => by rw [List.mem_singleton.mp hy]; exact h.bo.dp) fun y hy => by rw [List.mem_singleton.mp hy]; exact h.bo.tx).mono (Nat.le_refl _) (by omega), fun ds e => by cases e⟩
theorem Dp.tup {j : Nat} {x : PyData} (h : Dp j x) : Dp (j + 1) (.tuple [x]) := ⟨(Bo.tup (dp := 3 + j) (w := 100 + (j + 1)) (by rw [wA_one]; have := h.bo.w; omega) (fun y hy => by rw [List.mem_singleton.mp hy]; exact h.bo.dp) fun y hy => by rw [List.mem_singleton.mp hy]; exact h.bo.tx).mono (Nat.le_refl _) (by omega), fun ds e => by cases e; show (1 : Nat) ≤ 21; decide⟩
end K32
end

section
set_option Elab.async false
set_option linter.all false
set_option maxRecDepth 100000
set_option maxHeartbeats 1000000
namespace K32
open PySem PySem.Spec PyProof.Rows L2 DL
theorem wt_nz {z : Int} (h : z ≠ 0) : (PyData.int z).weight = z.natAbs.log2 + 1 := by
  simp only [PyData.weight]
  rw [if_neg (by simpa using h)]
theorem wt_z : (PyData.int 0).weight = 0 := by simp [PyData.weight]
theorem wt_lt {z : Int} {k : Nat} (h : z.natAbs < 2 ^ k) : (PyData.int z).weight ≤ k := by
  by_cases hz : z = 0
  · subst hz; rw [wt_z]; omega
  · rw [wt_nz hz]
    have := (Nat.log2_lt (by omega)).mpr h
    omega
theorem lt_wt (z : Int) : z.natAbs < 2 ^ (PyData.int z).weight := by
  by_cases hz : z = 0
  · subst hz; rw [wt_z]; decide
  · rw [wt_nz hz]; exact Nat.lt_log2_self
theorem wt_dbl (z : Int) : (PyData.int (2 * z)).weight ≤ (PyData.int z).weight + 1 := wt_lt (by
  have := lt_wt z
  rw [Nat.pow_succ]
  omega)
theorem wt_add {p q : Int} {k : Nat} (hp : (PyData.int p).weight ≤ k) (hq : (PyData.int q).weight ≤ k) : (PyData.int (p + q)).weight ≤ k + 1 := wt_lt (by
  have h1 := Nat.lt_of_lt_of_le (lt_wt p) (Nat.pow_le_pow_right (by decide) hp)
  have h2 := Nat.lt_of_lt_of_le (lt_wt q) (Nat.pow_le_pow_right (by decide) hq)
  rw [Nat.pow_succ]
  omega)
/-- an item that fits -/
structure It6 (x : PyData) : Prop where
  w : x.weight ≤ 60
  dp : x.depth ≤ 44
  tx : txt x = true
theorem it_pair {i : Int} (hi : (PyData.int i).weight ≤ 4) {a b : Int} (h : (PyData.int a).weight + (PyData.int b).weight ≤ 50) : It6 (.tuple [.int i, .tuple [.int a, .int b]]) := by
  refine ⟨?_, ?_, ?_⟩
  · simp only [w_tup, PyData.weightAll]; omega
  · simp only [d_tup, PyData.depthAll]; simp [PyData.depth]
  · simp [t_tupl, txtAll, txt]
theorem small_vok {xs : List PyData} (h : ∀ x ∈ xs, It6 x) (hl : xs.length ≤ 13) : VOk (.tuple xs) := by
  refine tup_vok (by omega) ?_ fun x hx => ⟨(h x hx).dp, (h x hx).tx⟩
  have := wA_le fun x hx => (h x hx).w
  have h2 : (60 + 1) * xs.length ≤ 61 * 13 := Nat.mul_le_mul_left _ hl
  omega
theorem small_vokL {xs : List PyData} (h : ∀ x ∈ xs, It6 x) (hl : xs.length ≤ 13) : VOk (.list xs) := by
  have := wA_le fun x hx => (h x hx).w
  have h2 : (60 + 1) * xs.length ≤ 61 * 13 := Nat.mul_le_mul_left _ hl
  exact ⟨Bo.lst (dp := 44) (by omega) (fun x hx => (h x hx).dp) fun x hx => (h x hx).tx, fun ds e => by cases e⟩
theorem frac_w {D : List (Int × PyData)} (h : POk D) : ∀ e ∈ D, ∃ p q : Int, e.2 = .tuple [.int p, .int q] ∧ (PyData.int p).weight + (PyData.int q).weight ≤ 48 ∧ (PyData.int q).weight ≤ 4 ∧ (PyData.int e.1).weight ≤ 3 := fun e he => by
  have h1 := h.fr e he
  obtain ⟨p, q, hpq⟩ := frac_ex h1.fr
  have hw := h1.w
  rw [hpq] at hw
  simp only [w_tup, PyData.weightAll] at hw
  exact ⟨p, q, hpq, by omega, h1.qw p q hpq, int_w5 (h.rg e he)⟩
theorem t_lc {ρ : Ev} {mi : Ev → M (List PyData)} {g : PyData → Ev → M Ev} {mt : Ev → M Bool} {me : Ev → M PyData} {vs : List Nat} {P : PyData → Prop} {n : Nat} {ds : List PyData} (h : mi ρ = pure ds) (hl : ds.length ≤ n) (hn : n ≤ 1000000) (hf : ∀ d ∈ ds, Tri (lcF ρ g mt me vs d) fun o => ∃ x, o = some x ∧ P x) : Tri (mLc mi g mt me vs ρ) fun xs => xs.length ≤ n ∧ ∀ x ∈ xs, P x := by
  unfold mLc
  rw [h]
  show Tri ((lft (sz ds) : M (List PyData)) >>= fun ds => lcM ds (lcF ρ g mt me vs)) _
  rw [sz_ok (Nat.le_trans hl hn)]
  exact (t_lcM ds hf).mono fun xs ⟨h1, h2⟩ => ⟨by omega, h2⟩
theorem it_pk {D : List (Int × PyData)} (h : POk D) : ∀ x ∈ D.map pk, It6 x := fun x hx => by
  obtain ⟨e, he, rfl⟩ := List.mem_map.mp hx
  have := pk_w h e he
  exact ⟨by omega, by have := this.2.1; omega, this.2.2⟩
theorem cut_last (ds : List PyData) : (cutP ds (some (-1)) none).length ≤ 1 ∧ ∀ x ∈ cutP ds (some (-1)) none, x ∈ ds := by
  unfold cutP
  refine ⟨?_, fun x hx => List.mem_of_mem_drop (List.mem_of_mem_take hx)⟩
  rw [List.length_take, List.length_drop]
  have : HT.sIx ds.length 0 (some (-1)) = ((-1 : Int) + ds.length).toNat := by
    unfold HT.sIx
    simp
  rw [this]
  omega
theorem cut_mem (ds : List PyData) (lo hi : Option Int) : (cutP ds lo hi).length ≤ ds.length ∧ ∀ x ∈ cutP ds lo hi, x ∈ ds := by
  unfold cutP
  refine ⟨?_, fun x hx => List.mem_of_mem_drop (List.mem_of_mem_take hx)⟩
  rw [List.length_take, List.length_drop]
  omega
end K32
end

section
set_option Elab.async false
set_option linter.all false
set_option maxRecDepth 100000
set_option maxHeartbeats 1000000
namespace K32
open PySem PySem.Spec PyProof.Rows L2 DL
section
variable {D : List (Int × PyData)} (hD : POk D) (x0 x1 x2 x3 x5 x6 x7 x8 x9 x10 x11 x12 x13 x14 x15 x16 : Sl)
abbrev fr17 (D : List (Int × PyData)) (x0 x1 x2 x3 x5 x6 x7 x8 x9 x10 x11 x12 x13 x14 x15 x16 : Sl) : Ev := [x0, x1, x2, x3, .vl (.tuple (D.map pk)), x5, x6, x7, x8, x9, x10, x11, x12, x13, x14, x15, x16]
include hD
theorem comp_of {g : PyData → Ev → M Ev} {me : Ev → M PyData} {vs : List Nat} {ρ : Ev} (h4 : ρ[4]? = some (.vl (.tuple (D.map pk))))
    (hf : ∀ e ∈ D, ∀ p q : Int, e.2 = .tuple [.int p, .int q] → (PyData.int p).weight + (PyData.int q).weight ≤ 48 → (PyData.int q).weight ≤ 4 → (PyData.int e.1).weight ≤ 3 → ∃ x, lcF ρ g mYes me vs (.tuple [.int e.1, .tuple [.int p, .int q]]) = pure (some x) ∧ It6 x) :
    Tri (mCl tupleD (mCons (mFrz (mLc (mSeqI (mName 4)) g mYes me vs)) mNil) ρ) VOk := by
  have hs : mSeqI (mName 4) ρ = pure (D.map pk) := by
    unfold mSeqI mName
    rw [h4]; rfl
  refine t_cl (P := fun ds => ∃ xs, ds = [.list xs] ∧ xs.length ≤ 9 ∧ ∀ x ∈ xs, It6 x) (t_cons (t_frz ((t_lc (n := 9) hs (by rw [List.length_map]; exact hD.len) (by decide) fun d hd => ?_).mono fun xs h => t_nil ⟨xs, rfl, h⟩))) fun x ⟨xs, e, hl, hx⟩ => ⟨.tuple xs, by subst e; rfl, small_vok hx (by omega)⟩
  obtain ⟨e, he, rfl⟩ := List.mem_map.mp hd
  obtain ⟨p, q, hpq, h1, h2, h3⟩ := frac_w hD e he
  obtain ⟨x, hx, h6⟩ := hf e he p q hpq h1 h2 h3
  show Tri (lcF ρ g mYes me vs (.tuple [.int e.1, e.2])) _
  rw [hpq]
  exact Tri.eq hx ⟨x, rfl, h6⟩
theorem comp1 : Tri (mCl tupleD (mCons (mFrz (mLc (mSeqI (mName 4)) (gTupD 2 (gsCons (gSet 12) (gsCons (gTupD 2 (gsCons (gSet 13) (gsCons (gSet 14) (gsNil)))) (gsNil)))) (mYes) (mTup (mCons (mName 12) (mCons (mTup (mCons (mOp mulD (mC (.int 2)) (mName 13)) (mCons (mOp mulD (mC (.int 2)) (mName 14)) (mNil)))) (mNil)))) [12, 13, 14])) (mNil)) (fr17 D x0 x1 x2 x3 x5 x6 x7 x8 x9 x10 x11 x12 x13 x14 x15 x16)) VOk :=
  comp_of hD rfl fun e he p q _ h1 h2 h3 => by
    have s2 : ∀ a b : PyData, sz [a, b] = some [a, b] := fun _ _ => rfl
    have m : ∀ z : Int, mulD (.int 2) (.int z) = some (.int (2 * z)) := fun z => mulD_ok (.inr (by decide))
    refine ⟨.tuple [.int e.1, .tuple [.int (2 * p), .int (2 * q)]], ?_, it_pair (by omega) (by have := wt_dbl p; have := wt_dbl q; omega)⟩
    unfold lcF fr17
    simp only [mSeq, mIfS, mRet, mRetN, mPass, mOrT, mAndT, mNotT, mAsB, mIsi, mName, mOwn, mC, mOp, mOp3, mCl, mCons, mNil, mFrz, mFrzD, mSeqI, mCall, mAndV, mOrV, mNotV, mIfE, mTup, mLst, mSet, mSetF, mSetD, mPar, mUn, mUn', mCut, mP, mNoP, mIsN, mIsNot, mRng, mKeys, mYes, gSet, gTupD, gsCons, gsNil, mFz, mDrop, mAsg, mAppend, ev0, frzAt, wipeE, rdV_vl, rdB_vl, rdB_ol, rdB_od, asB_b, asI_i, seqD_l, seqD_t, lenI1, lenI2, lenI3, lft_some, pure_bind, getE0, getES, List.set_cons_zero, List.set_cons_succ, List.map_cons, List.map_nil, List.cons_append, List.nil_append, List.replicate_succ, List.replicate_zero, List.append_nil, List.length_cons, List.length_nil, if_true, if_false, ite_true, ite_false, Bool.false_eq_true, reduceIte, Bool.not_true, Bool.not_false, Nat.reduceAdd, Nat.reduceSub, List.zip_cons_cons, List.zip_nil_right, List.foldl_cons, List.foldl_nil, s2, m]
theorem comp2 : Tri (mCl tupleD (mCons (mFrz (mLc (mSeqI (mName 4)) (gTupD 2 (gsCons (gSet 12) (gsCons (gTupD 2 (gsCons (gSet 13) (gsCons (gSet 14) (gsNil)))) (gsNil)))) (mYes) (mTup (mCons (mName 12) (mCons (mTup (mCons (mOp addD (mName 13) (mName 14)) (mCons (mName 14) (mNil)))) (mNil)))) [12, 13, 14])) (mNil)) (fr17 D x0 x1 x2 x3 x5 x6 x7 x8 x9 x10 x11 x12 x13 x14 x15 x16)) VOk :=
  comp_of hD rfl fun e he p q _ h1 h2 h3 => by
    have s2 : ∀ a b : PyData, sz [a, b] = some [a, b] := fun _ _ => rfl
    have m : ∀ y z : Int, addD (.int y) (.int z) = some (.int (y + z)) := fun y z => rfl
    have hk : (PyData.int (p + q)).weight + (PyData.int q).weight ≤ 50 := by
      by_cases hp : 4 ≤ (PyData.int p).weight
      · have := wt_add (p := p) (q := q) (k := (PyData.int p).weight) (Nat.le_refl _) (by omega)
        omega
      · have := wt_add (p := p) (q := q) (k := 4) (by omega) h2
        omega
    refine ⟨.tuple [.int e.1, .tuple [.int (p + q), .int q]], ?_, it_pair (by omega) hk⟩
    unfold lcF fr17
    simp only [mSeq, mIfS, mRet, mRetN, mPass, mOrT, mAndT, mNotT, mAsB, mIsi, mName, mOwn, mC, mOp, mOp3, mCl, mCons, mNil, mFrz, mFrzD, mSeqI, mCall, mAndV, mOrV, mNotV, mIfE, mTup, mLst, mSet, mSetF, mSetD, mPar, mUn, mUn', mCut, mP, mNoP, mIsN, mIsNot, mRng, mKeys, mYes, gSet, gTupD, gsCons, gsNil, mFz, mDrop, mAsg, mAppend, ev0, frzAt, wipeE, rdV_vl, rdB_vl, rdB_ol, rdB_od, asB_b, asI_i, seqD_l, seqD_t, lenI1, lenI2, lenI3, lft_some, pure_bind, getE0, getES, List.set_cons_zero, List.set_cons_succ, List.map_cons, List.map_nil, List.cons_append, List.nil_append, List.replicate_succ, List.replicate_zero, List.append_nil, List.length_cons, List.length_nil, if_true, if_false, ite_true, ite_false, Bool.false_eq_true, reduceIte, Bool.not_true, Bool.not_false, Nat.reduceAdd, Nat.reduceSub, List.zip_cons_cons, List.zip_nil_right, List.foldl_cons, List.foldl_nil, s2, m]
theorem comp3 : Tri (mCl tupleD (mCons (mFrz (mLc (mSeqI (mName 4)) (gTupD 2 (gsCons (gSet 12) (gsCons (gSet 15) (gsNil)))) (mYes) (mTup (mCons (mOp addD (mName 12) (mC (.int 1))) (mCons (mName 15) (mNil)))) [12, 15])) (mNil)) (fr17 D x0 x1 x2 x3 x5 x6 x7 x8 x9 x10 x11 x12 x13 x14 x15 x16)) VOk :=
  comp_of hD rfl fun e he p q _ h1 h2 h3 => by
    have s2 : ∀ a b : PyData, sz [a, b] = some [a, b] := fun _ _ => rfl
    have m : ∀ y z : Int, addD (.int y) (.int z) = some (.int (y + z)) := fun y z => rfl
    have := wt_add (p := e.1) (q := 1) (k := 3) h3 (by decide +kernel)
    refine ⟨.tuple [.int (e.1 + 1), .tuple [.int p, .int q]], ?_, it_pair (by omega) (by omega)⟩
    unfold lcF fr17
    simp only [mSeq, mIfS, mRet, mRetN, mPass, mOrT, mAndT, mNotT, mAsB, mIsi, mName, mOwn, mC, mOp, mOp3, mCl, mCons, mNil, mFrz, mFrzD, mSeqI, mCall, mAndV, mOrV, mNotV, mIfE, mTup, mLst, mSet, mSetF, mSetD, mPar, mUn, mUn', mCut, mP, mNoP, mIsN, mIsNot, mRng, mKeys, mYes, gSet, gTupD, gsCons, gsNil, mFz, mDrop, mAsg, mAppend, ev0, frzAt, wipeE, rdV_vl, rdB_vl, rdB_ol, rdB_od, asB_b, asI_i, seqD_l, seqD_t, lenI1, lenI2, lenI3, lft_some, pure_bind, getE0, getES, List.set_cons_zero, List.set_cons_succ, List.map_cons, List.map_nil, List.cons_append, List.nil_append, List.replicate_succ, List.replicate_zero, List.append_nil, List.length_cons, List.length_nil, if_true, if_false, ite_true, ite_false, Bool.false_eq_true, reduceIte, Bool.not_true, Bool.not_false, Nat.reduceAdd, Nat.reduceSub, List.zip_cons_cons, List.zip_nil_right, List.foldl_cons, List.foldl_nil, s2, m]
theorem comp4 : Tri (mCl tupleD (mCons (mFrz (mLc (mSeqI (mName 4)) (gTupD 2 (gsCons (gSet 12) (gsCons (gSet 15) (gsNil)))) (mYes) (mTup (mCons (mName 12) (mCons (mFrz (mCl listL (mCons (mName 15) (mNil)))) (mNil)))) [12, 15])) (mNil)) (fr17 D x0 x1 x2 x3 x5 x6 x7 x8 x9 x10 x11 x12 x13 x14 x15 x16)) VOk :=
  comp_of hD rfl fun e he p q _ h1 h2 h3 => by
    have s2 : ∀ a b : PyData, sz [a, b] = some [a, b] := fun _ _ => rfl
    have m : listL [.tuple [.int p, .int q]] = some [.int p, .int q] := rfl
    refine ⟨.tuple [.int e.1, .list [.int p, .int q]], ?_, ⟨?_, ?_, ?_⟩⟩
    · unfold lcF fr17
      simp only [mSeq, mIfS, mRet, mRetN, mPass, mOrT, mAndT, mNotT, mAsB, mIsi, mName, mOwn, mC, mOp, mOp3, mCl, mCons, mNil, mFrz, mFrzD, mSeqI, mCall, mAndV, mOrV, mNotV, mIfE, mTup, mLst, mSet, mSetF, mSetD, mPar, mUn, mUn', mCut, mP, mNoP, mIsN, mIsNot, mRng, mKeys, mYes, gSet, gTupD, gsCons, gsNil, mFz, mDrop, mAsg, mAppend, ev0, frzAt, wipeE, rdV_vl, rdB_vl, rdB_ol, rdB_od, asB_b, asI_i, seqD_l, seqD_t, lenI1, lenI2, lenI3, lft_some, pure_bind, getE0, getES, List.set_cons_zero, List.set_cons_succ, List.map_cons, List.map_nil, List.cons_append, List.nil_append, List.replicate_succ, List.replicate_zero, List.append_nil, List.length_cons, List.length_nil, if_true, if_false, ite_true, ite_false, Bool.false_eq_true, reduceIte, Bool.not_true, Bool.not_false, Nat.reduceAdd, Nat.reduceSub, List.zip_cons_cons, List.zip_nil_right, List.foldl_cons, List.foldl_nil, s2, m]
    · simp only [w_tup, w_lst, PyData.weightAll]; omega
    · simp only [d_tup, d_lst, PyData.depthAll]; simp [PyData.depth]
    · simp [t_tupl, t_lstl, txtAll, txt]
end
end K32
end

section
set_option Elab.async false
set_option linter.all false
set_option maxRecDepth 100000
set_option maxHeartbeats 1000000
namespace K32
open PySem PySem.Spec PyProof.Rows L2 DL
section
variable {D E : List (Int × PyData)} (hD : POk D) (hE : POk E) {dp : PyData} (hd : Dp 34 dp) (x0 x1 x2 x3 x7 x8 x9 x10 x11 x12 x13 x14 x15 x16 : Sl)
theorem Dp.it {j : Nat} {x : PyData} (h : Dp j x) (hj : j ≤ 36) : VOk x := ⟨h.bo.mono (by omega) (by omega), fun ds e => by have := h.len ds e; omega⟩
include hD hE hd
theorem vals1 : Tri (mLst (mCons (mName 4) (mCons (mFrz (mCl listL (mCons (mName 4) (mNil)))) (mCons (mCut cutD (mName 4) (mP (mC (.int 1))) (mNoP)) (mCons (mCut cutD (mName 4) (mNoP) (mP (mUn negD (mC (.int 1))))) (mCons (mUn' revD (mName 4)) (mCons (mOp addD (mName 4) (mCut cutD (mName 4) (mP (mUn negD (mC (.int 1)))) (mNoP))) (mCons (mName 5) (mCons (mTup (mNil)) (mCons (mC .none) (mCons (mName 6) (mCons (mTup (mCons (mName 6) (mNil))) (mNil))))))))))))
    [x0, x1, x2, x3, .vl (.tuple (D.map pk)), .vl (.tuple (E.map pk)), .vl dp, x7, x8, x9, x10, x11, x12, x13, x14, x15, x16]) fun xs => xs.length = 11 ∧ ∀ x ∈ xs, VOk x := by
  have hl := hD.len
  have it := it_pk hD
  have c1 := cut_mem (D.map pk) (some 1) none
  have c2 := cut_mem (D.map pk) none (some (-1))
  have c3 := cut_last (D.map pk)
  have e1 : ∀ (ds : List PyData) lo hi, cutD (.tuple ds) lo hi = some (.tuple (cutP ds lo hi)) := fun _ _ _ => rfl
  have e2 : negD (.int 1) = some (.int (-1)) := rfl
  have e3 : ∀ ds : List PyData, listL [.tuple ds] = some ds := fun _ => rfl
  have e4 : ∀ ds : List PyData, revD (.tuple ds) = some (.tuple ds.reverse) := fun _ => rfl
  have e5 : addD (.tuple (D.map pk)) (.tuple (cutP (D.map pk) (some (-1)) none)) = some (.tuple (D.map pk ++ cutP (D.map pk) (some (-1)) none)) := if_pos (by have := c3.1; rw [List.length_map]; omega)
  have s0 : sz ([] : List PyData) = some [] := rfl
  have s1 : ∀ a : PyData, sz [a] = some [a] := fun _ => rfl
  have s11 : ∀ a b c d e f g h i j k : PyData, sz [a, b, c, d, e, f, g, h, i, j, k] = some [a, b, c, d, e, f, g, h, i, j, k] := fun _ _ _ _ _ _ _ _ _ _ _ => rfl
  have hlm : (D.map pk).length = D.length := List.length_map _
  have vs : ∀ x ∈ [PyData.tuple (D.map pk), .list (D.map pk), .tuple (cutP (D.map pk) (some 1) none), .tuple (cutP (D.map pk) none (some (-1))), .tuple (D.map pk).reverse, .tuple (D.map pk ++ cutP (D.map pk) (some (-1)) none), .tuple (E.map pk), .tuple [], .none, dp, .tuple [dp]], VOk x := by
    intro x hx
    simp only [List.mem_cons, List.not_mem_nil, or_false] at hx
    rcases hx with rfl | rfl | rfl | rfl | rfl | rfl | rfl | rfl | rfl | rfl | rfl
    · exact poly_vok hD
    · exact small_vokL it (by omega)
    · exact small_vok (fun x hx => it x (c1.2 x hx)) (by omega)
    · exact small_vok (fun x hx => it x (c2.2 x hx)) (by omega)
    · exact small_vok (fun x hx => it x (List.mem_reverse.mp hx)) (by rw [List.length_reverse]; omega)
    · refine small_vok (fun x hx => ?_) (by rw [List.length_append]; have := c3.1; omega)
      rcases List.mem_append.mp hx with hx | hx
      · exact it x hx
      · exact it x (c3.2 x hx)
    · exact poly_vok hE
    · exact small_vok (fun x hx => nomatch hx) (by decide)
    · exact ⟨⟨by simp [PyData.weight], by simp [PyData.depth], by simp [txt]⟩, fun ds e => by cases e⟩
    · exact hd.it (by decide)
    · exact hd.tup.it (by decide)
  generalize D.map pk = dl at *
  generalize E.map pk = el at *
  refine Tri.eq (a := [PyData.tuple dl, .list dl, .tuple (cutP dl (some 1) none), .tuple (cutP dl none (some (-1))), .tuple dl.reverse, .tuple (dl ++ cutP dl (some (-1)) none), .tuple el, .tuple [], .none, dp, .tuple [dp]]) ?_ ⟨rfl, vs⟩
  simp only [mSeq, mIfS, mRet, mRetN, mPass, mOrT, mAndT, mNotT, mAsB, mIsi, mName, mOwn, mC, mOp, mOp3, mCl, mCons, mNil, mFrz, mFrzD, mSeqI, mCall, mAndV, mOrV, mNotV, mIfE, mTup, mLst, mSet, mSetF, mSetD, mPar, mUn, mUn', mCut, mP, mNoP, mIsN, mIsNot, mRng, mKeys, mYes, gSet, gTupD, gsCons, gsNil, mFz, mDrop, mAsg, mAppend, ev0, frzAt, wipeE, rdV_vl, rdB_vl, rdB_ol, rdB_od, asB_b, asI_i, seqD_l, seqD_t, lenI1, lenI2, lenI3, lft_some, pure_bind, getE0, getES, List.set_cons_zero, List.set_cons_succ, List.map_cons, List.map_nil, List.cons_append, List.nil_append, List.replicate_succ, List.replicate_zero, List.append_nil, List.length_cons, List.length_nil, if_true, if_false, ite_true, ite_false, Bool.false_eq_true, reduceIte, Bool.not_true, Bool.not_false, Nat.reduceAdd, Nat.reduceSub, List.zip_cons_cons, List.zip_nil_right, List.foldl_cons, List.foldl_nil, e1, e2, e3, e4, e5, s0, s1, s11]
end
end K32
end

section
set_option Elab.async false
set_option linter.all false
set_option maxRecDepth 100000
set_option maxHeartbeats 1000000
namespace K32
open PySem PySem.Spec PyProof.Rows L2 DL
section
variable {D : List (Int × PyData)} (hD : POk D) {dp : PyData} (hd : Dp 34 dp) (x0 x1 x2 x3 x5 x7 x8 x9 x10 x11 x12 x13 x14 x15 x16 : Sl)
include hD hd
theorem vals3 : Tri (mLst (mCons (mOp addD (mName 4) (mTup (mCons (mTup (mCons (mOp powD (mC (.int 10)) (mC (.int 30))) (mCons (mTup (mCons (mC (.int 1)) (mCons (mC (.int 1)) (mNil)))) (mNil)))) (mNil)))) (mCons (mOp addD (mName 4) (mTup (mCons (mTup (mCons (mC (.int 40)) (mCons (mTup (mCons (mName 6) (mCons (mC (.int 1)) (mNil)))) (mNil)))) (mNil)))) (mCons (mTup (mCons (mTup (mCons (mC (.bool true)) (mCons (mTup (mCons (mC (.int 1)) (mCons (mC (.int 1)) (mNil)))) (mNil)))) (mNil))) (mCons (mTup (mCons (mTup (mCons (mC (.int 0)) (mCons (mC (.int 1)) (mNil)))) (mNil))) (mNil)))))
    [x0, x1, x2, x3, .vl (.tuple (D.map pk)), x5, .vl dp, x7, x8, x9, x10, x11, x12, x13, x14, x15, x16]) fun xs => xs.length = 4 ∧ ∀ x ∈ xs, VOk x := by
  have hl := hD.len
  have it := it_pk hD
  have s1 : ∀ a : PyData, sz [a] = some [a] := fun _ => rfl
  have s2 : ∀ a b : PyData, sz [a, b] = some [a, b] := fun _ _ => rfl
  have s4 : ∀ a b c d : PyData, sz [a, b, c, d] = some [a, b, c, d] := fun _ _ _ _ => rfl
  have hlm : (D.map pk).length = D.length := List.length_map _
  have e5 : ∀ y : PyData, addD (.tuple (D.map pk)) (.tuple [y]) = some (.tuple (D.map pk ++ [y])) := fun y => if_pos (by rw [hlm, List.length_singleton]; omega)
  have bw : PyData.weightAll (D.map pk) ≤ 549 := by
    have := wA_le fun x hx => (it x hx).w
    rw [hlm] at this
    omega
  have app : ∀ y : PyData, y.weight ≤ 240 → y.depth ≤ 44 → txt y = true → VOk (.tuple (D.map pk ++ [y])) := fun y h1 h2 h3 => by
    refine tup_vok (by rw [List.length_append, hlm, List.length_singleton]; omega) (by rw [wA_app, wA_one]; omega) fun x hx => ?_
    rcases List.mem_append.mp hx with hx | hx
    · exact ⟨(it x hx).dp, (it x hx).tx⟩
    · rw [List.mem_singleton.mp hx]; exact ⟨h2, h3⟩
  have hdw := hd.bo.w
  have hdd := hd.bo.dp
  have hdt := hd.bo.tx
  have b40 : (PyData.int 40).weight ≤ 10 ∧ (PyData.int 1).weight ≤ 2 := ⟨by decide +kernel, by decide +kernel⟩
  have vs : ∀ x ∈ [PyData.tuple (D.map pk ++ [.tuple [.int 1000000000000000000000000000000, .tuple [.int 1, .int 1]]]), .tuple (D.map pk ++ [.tuple [.int 40, .tuple [dp, .int 1]]]), .tuple [.tuple [.bool true, .tuple [.int 1, .int 1]]], .tuple [.tuple [.int 0, .int 1]]], VOk x := by
    intro x hx
    simp only [List.mem_cons, List.not_mem_nil, or_false] at hx
    rcases hx with rfl | rfl | rfl | rfl
    · exact app _ (by decide +kernel) (by decide +kernel) (by decide +kernel)
    · refine app _ ?_ ?_ ?_
      · simp only [w_tup, PyData.weightAll]; omega
      · simp only [d_tup, PyData.depthAll]; simp [PyData.depth]; omega
      · simp [t_tupl, txtAll, txt, hdt]
    · exact ⟨⟨by decide +kernel, by decide +kernel, by decide +kernel⟩, fun ds e => by cases e; decide⟩
    · exact ⟨⟨by decide +kernel, by decide +kernel, by decide +kernel⟩, fun ds e => by cases e; decide⟩
  generalize D.map pk = dl at *
  refine Tri.eq (a := [PyData.tuple (dl ++ [.tuple [.int 1000000000000000000000000000000, .tuple [.int 1, .int 1]]]), .tuple (dl ++ [.tuple [.int 40, .tuple [dp, .int 1]]]), .tuple [.tuple [.bool true, .tuple [.int 1, .int 1]]], .tuple [.tuple [.int 0, .int 1]]]) ?_ ⟨rfl, vs⟩
  simp only [mSeq, mIfS, mRet, mRetN, mPass, mOrT, mAndT, mNotT, mAsB, mIsi, mName, mOwn, mC, mOp, mOp3, mCl, mCons, mNil, mFrz, mFrzD, mSeqI, mCall, mAndV, mOrV, mNotV, mIfE, mTup, mLst, mSet, mSetF, mSetD, mPar, mUn, mUn', mCut, mP, mNoP, mIsN, mIsNot, mRng, mKeys, mYes, gSet, gTupD, gsCons, gsNil, mFz, mDrop, mAsg, mAppend, ev0, frzAt, wipeE, rdV_vl, rdB_vl, rdB_ol, rdB_od, asB_b, asI_i, seqD_l, seqD_t, lenI1, lenI2, lenI3, lft_some, pure_bind, getE0, getES, List.set_cons_zero, List.set_cons_succ, List.map_cons, List.map_nil, List.cons_append, List.nil_append, List.replicate_succ, List.replicate_zero, List.append_nil, List.length_cons, List.length_nil, if_true, if_false, ite_true, ite_false, Bool.false_eq_true, reduceIte, Bool.not_true, Bool.not_false, Nat.reduceAdd, Nat.reduceSub, List.zip_cons_cons, List.zip_nil_right, List.foldl_cons, List.foldl_nil, e5, s1, s2, s4, pow30]
end
end K32
end

section
set_option Elab.async false
set_option linter.all false
set_option maxRecDepth 100000
set_option maxHeartbeats 1000000
namespace K32
open PySem PySem.Spec PyProof.Rows L2 DL
def Vn (n : Nat) (xs : List PyData) : Prop := xs.length = n ∧ ∀ x ∈ xs, VOk x
theorem Vn.app {n m : Nat} {xs ys : List PyData} (h1 : Vn n xs) (h2 : Vn m ys) : Vn (n + m) (xs ++ ys) := ⟨by rw [List.length_append, h1.1, h2.1], fun x hx => (List.mem_append.mp hx).elim (h1.2 x) (h2.2 x)⟩
theorem Vn.one {x : PyData} (h : VOk x) : Vn 1 [x] := ⟨rfl, fun y hy => by rw [List.mem_singleton.mp hy]; exact h⟩
section
variable {D : List (Int × PyData)} (hD : POk D) (x0 x1 x2 x3 x5 x6 x7 x8 x9 x10 x11 x12 x13 x14 x15 x16 : Sl)
include hD
theorem vals2 : Tri (mLst (mCons (mCl tupleD (mCons (mFrz (mLc (mSeqI (mName 4)) (gTupD 2 (gsCons (gSet 12) (gsCons (gSet 15) (gsNil)))) (mYes) (mTup (mCons (mOp addD (mName 12) (mC (.int 1))) (mCons (mName 15) (mNil)))) [12, 15])) (mNil))) (mCons (mCl tupleD (mCons (mFrz (mLc (mSeqI (mName 4)) (gTupD 2 (gsCons (gSet 12) (gsCons (gSet 15) (gsNil)))) (mYes) (mTup (mCons (mName 12) (mCons (mFrz (mCl listL (mCons (mName 15) (mNil)))) (mNil)))) [12, 15])) (mNil))) (mCons (mTup (mCons (mTup (mCons (mC (.int 0)) (mCons (mTup (mCons (mC (.int 0)) (mCons (mC (.int 1)) (mNil)))) (mNil)))) (mNil))) (mNil)))) (fr17 D x0 x1 x2 x3 x5 x6 x7 x8 x9 x10 x11 x12 x13 x14 x15 x16)) (Vn 3) := by
  have s1 : ∀ a : PyData, sz [a] = some [a] := fun _ => rfl
  have s2 : ∀ a b : PyData, sz [a, b] = some [a, b] := fun _ _ => rfl
  refine t_lst (t_cons ((comp3 hD x0 x1 x2 x3 x5 x6 x7 x8 x9 x10 x11 x12 x13 x14 x15 x16).mono fun a ha => t_cons ((comp4 hD x0 x1 x2 x3 x5 x6 x7 x8 x9 x10 x11 x12 x13 x14 x15 x16).mono fun b hb => t_cons (Tri.eq (a := .tuple [.tuple [.int 0, .tuple [.int 0, .int 1]]]) (by simp only [mSeq, mIfS, mRet, mRetN, mPass, mOrT, mAndT, mNotT, mAsB, mIsi, mName, mOwn, mC, mOp, mOp3, mCl, mCons, mNil, mFrz, mFrzD, mSeqI, mCall, mAndV, mOrV, mNotV, mIfE, mTup, mLst, mSet, mSetF, mSetD, mPar, mUn, mUn', mCut, mP, mNoP, mIsN, mIsNot, mRng, mKeys, mYes, gSet, gTupD, gsCons, gsNil, mFz, mDrop, mAsg, mAppend, ev0, frzAt, wipeE, rdV_vl, rdB_vl, rdB_ol, rdB_od, asB_b, asI_i, seqD_l, seqD_t, lenI1, lenI2, lenI3, lft_some, pure_bind, getE0, getES, List.set_cons_zero, List.set_cons_succ, List.map_cons, List.map_nil, List.cons_append, List.nil_append, List.replicate_succ, List.replicate_zero, List.append_nil, List.length_cons, List.length_nil, if_true, if_false, ite_true, ite_false, Bool.false_eq_true, reduceIte, Bool.not_true, Bool.not_false, Nat.reduceAdd, Nat.reduceSub, List.zip_cons_cons, List.zip_nil_right, List.foldl_cons, List.foldl_nil, s1, s2]) (t_nil ⟨by show (3 : Nat) ≤ 1000000; decide, rfl, ?_⟩)))))
  intro x hx
  simp only [List.mem_cons, List.not_mem_nil, or_false] at hx
  rcases hx with rfl | rfl | rfl
  · exact ha
  · exact hb
  · exact ⟨⟨by decide +kernel, by decide +kernel, by decide +kernel⟩, fun ds e => by cases e; decide⟩
end
theorem odd_dp {o : PyData} (h : o ∈ oddL) : Dp 0 o := ⟨odd_ok.bo o h, odd_ok.sh o h⟩
theorem odd_vok {o : PyData} (h : o ∈ oddL) : VOk o := (odd_dp h).it (by decide)
theorem odd_vn : Vn 17 oddL := ⟨rfl, fun x hx => odd_vok hx⟩
theorem br_vok {v d : PyData} (h : Br v d) (hv : Bo 700 4 v) : VOk d := ⟨⟨by have := h.w; have := hv.w; omega, by have := h.dp; have := hv.dp; omega, h.tx⟩, fun ds e => by have := h.len ds e; omega⟩
theorem t_app {ρ : Ev} {i : Nat} {ds : List PyData} {m : Ev → M PyData} {P : PyData → Prop} {Qf : Fl → Prop} (e : ρ[i]? = some (.ol ds)) (hl : ds.length < 1000) (h : Tri (m ρ) P) (q : ∀ d, P d → Qf (.nx (ρ.set i (.ol (ds ++ [d]))))) : Tri (mAppend i m ρ) Qf := by
  unfold mAppend
  refine Tri.bind (Tri.lft (P := (· = ds)) (show olAt ρ i = some ds by unfold olAt; rw [e]) rfl) fun x hx => ?_
  subst hx
  refine Tri.bind h fun d hd => ?_
  refine Tri.bind (Tri.lft (P := (· = x ++ [d])) (show szI x.length (x ++ [d]) = some (x ++ [d]) from if_pos (by omega)) rfl) fun y hy => ?_
  subst hy
  exact Tri.pure (q d hd)
theorem addL_ok {xs ys : List PyData} (h : xs.length + ys.length ≤ 1000000) : addL (.list xs) (.list ys) = some (xs ++ ys) := if_pos h
theorem addD_ok {xs ys : List PyData} (h : xs.length + ys.length ≤ 1000000) : addD (.list xs) (.list ys) = some (.list (xs ++ ys)) := if_pos h
/-- a list of the frame's own and a list told -/
theorem t_more {ρ : Ev} {i n m : Nat} {vs : List PyData} {ml : Ev → M (List PyData)} {Qf : Fl → Prop} (e : ρ[i]? = some (.ol vs)) (hv : Vn n vs) (hn : n + m ≤ 1000) (h : Tri (ml ρ) (Vn m)) (q : ∀ xs, Vn (n + m) xs → Qf (.nx (ρ.set i (.ol xs)))) : Tri (mSetF i (mOp addL (mOwn i) (mFrz ml)) ρ) Qf :=
  t_setF ((t_op (P := fun d => d = .list vs) (Q := fun d => ∃ xs, d = .list xs ∧ Vn m xs) (R := Vn (n + m)) (Tri.eq (show mOwn i ρ = pure (.list vs) by unfold mOwn; rw [e]; rfl) rfl) (t_frz (h.mono fun xs hx => ⟨xs, rfl, hx⟩)) fun x y hx ⟨xs, hy, hxs⟩ => by
    subst hx hy
    exact ⟨_, addL_ok (by rw [hv.1, hxs.1]; omega), hv.app hxs⟩).mono q)
theorem iter_ok {D : List (Int × PyData)} (hD : POk D) {vs : List PyData} {n : Nat} (hv : Vn n vs) (hn : n ≤ 1000) (x0 x3 x5 x6 x7 x9 x10 x11 x12 x13 x14 x15 x16 : Sl) :
    Tri (mSeqI (mOp addD (mOp addD (mOwn 8) (mName 2)) (mFrz (mLc (mRng rng1D (mCons (mC (.int 14)) (mNil))) (gSet 16) (mYes) (mCallS 2 1 (mf_law_bent 8) (mCons (mName 4) (mCons (mName 2) (mNil)))) [16]))) [x0, .src, .vl (.list oddL), x3, .vl (.tuple (D.map pk)), x5, x6, x7, .ol vs, x9, x10, x11, x12, x13, x14, x15, x16]) fun xs => ∀ x ∈ xs, VOk x := by
  have hr : rng1D [.int 14] = some (rngD 0 14) := rng1D_ok (by decide) (by decide)
  have hb := bd_due (n := 4) hD
  refine Tri.bind (P := fun d => ∃ xs, d = .list xs ∧ ∀ x ∈ xs, VOk x) (t_op (P := fun d => d = .list (vs ++ oddL)) (Q := fun d => ∃ xs, d = .list xs ∧ xs.length ≤ 14 ∧ ∀ x ∈ xs, VOk x) (t_op (P := fun d => d = .list vs) (Q := fun d => d = .list oddL) (Tri.eq (a := .list vs) rfl rfl) (t_name rfl rfl) fun x y hx hy => ?_) (t_frz ((t_lc (n := 14) (ds := rngD 0 14) (P := VOk) ?_ (by decide) (by decide) fun d hd => ?_).mono fun xs h => ⟨xs, rfl, h⟩)) fun x y hx ⟨ys, hy, hl, hys⟩ => ?_) fun d ⟨xs, e, hx⟩ => ?_
  · subst hx hy
    exact ⟨_, addD_ok (by rw [hv.1, odd_vn.1]; omega), rfl⟩
  · simp only [mSeq, mIfS, mRet, mRetN, mPass, mOrT, mAndT, mNotT, mAsB, mIsi, mName, mOwn, mC, mOp, mOp3, mCl, mCons, mNil, mFrz, mFrzD, mSeqI, mCall, mAndV, mOrV, mNotV, mIfE, mTup, mLst, mSet, mSetF, mSetD, mPar, mUn, mUn', mCut, mP, mNoP, mIsN, mIsNot, mRng, mKeys, mYes, gSet, gTupD, gsCons, gsNil, mFz, mDrop, mAsg, mAppend, ev0, frzAt, wipeE, rdV_vl, rdB_vl, rdB_ol, rdB_od, asB_b, asI_i, seqD_l, seqD_t, lenI1, lenI2, lenI3, lft_some, pure_bind, getE0, getES, List.set_cons_zero, List.set_cons_succ, List.map_cons, List.map_nil, List.cons_append, List.nil_append, List.replicate_succ, List.replicate_zero, List.append_nil, List.length_cons, List.length_nil, if_true, if_false, ite_true, ite_false, Bool.false_eq_true, reduceIte, Bool.not_true, Bool.not_false, Nat.reduceAdd, Nat.reduceSub, List.zip_cons_cons, List.zip_nil_right, List.foldl_cons, List.foldl_nil, hr]
  · refine Tri.bind (P := fun ρ1 => ρ1 = ([x0, .src, .vl (.list oddL), x3, .vl (.tuple (D.map pk)), x5, x6, x7, .ol vs, x9, x10, x11, x12, x13, x14, x15, .vl d] : Ev)) (Tri.pure rfl) fun ρ1 e => ?_
    subst e
    refine Tri.bind (P := fun b => b = true) (Tri.pure rfl) fun b e => ?_
    subst e
    refine Tri.bind (P := VOk) (t_callS rfl (t_cons (t_name rfl (t_cons (t_name rfl (t_nil ⟨rfl, (bent_ok odd_ok 8 _ hb).mono fun d h => br_vok h hb.2.1⟩)))))) fun x hx => Tri.pure ⟨x, rfl, hx⟩
  · subst hx hy
    refine ⟨_, addD_ok (by rw [List.length_append, hv.1, odd_vn.1]; omega), _, rfl, fun x hx => ?_⟩
    rcases List.mem_append.mp hx with hx | hx
    · exact (hv.app odd_vn).2 x hx
    · exact hys x hx
  · subst e
    exact Tri.lft rfl hx
end K32
end

section
set_option Elab.async false
set_option linter.all false
set_option maxRecDepth 100000
set_option maxHeartbeats 1000000
namespace K32
open PySem PySem.Spec PyProof.Rows L2 DL
def F0 (ρ : Ev) : Prop := ∃ x0 x3 x4 x5 x6 x7 x8 x9 x10 x11 x12 x13 x14 x15 x16 : Sl, ρ = [x0, .src, .vl (.list oddL), x3, x4, x5, x6, x7, x8, x9, x10, x11, x12, x13, x14, x15, x16]
def F1 (D E : List (Int × PyData)) (j : Nat) (ρ : Ev) : Prop := ∃ dp : PyData, Dp j dp ∧ ∃ x0 x3 x7 x8 x9 x10 x11 x12 x13 x14 x15 x16 : Sl, ρ = [x0, .src, .vl (.list oddL), x3, .vl (.tuple (D.map pk)), .vl (.tuple (E.map pk)), .vl dp, x7, x8, x9, x10, x11, x12, x13, x14, x15, x16]
def F2 (D : List (Int × PyData)) (n : Nat) (ρ : Ev) : Prop := ∃ (dp : PyData) (vs : List PyData), Dp 34 dp ∧ Vn n vs ∧ ∃ x0 x3 x5 x7 x9 x10 x11 x12 x13 x14 x15 x16 : Sl, ρ = [x0, .src, .vl (.list oddL), x3, .vl (.tuple (D.map pk)), x5, .vl dp, x7, .ol vs, x9, x10, x11, x12, x13, x14, x15, x16]
theorem odd_set (ρ : Ev) : mFrz (mLst (mCons (mC .none) (mCons (mC (.bool true)) (mCons (mC (.int 0)) (mCons (mC (.int 1)) (mCons (mUn negD (mC (.int 1))) (mCons (mC (.int 2)) (mCons (mC (.str "a")) (mCons (mTup (mNil)) (mCons (mTup (mCons (mC (.int 0)) (mNil))) (mCons (mTup (mCons (mC (.int 1)) (mNil))) (mCons (mTup (mCons (mC (.int 0)) (mCons (mC (.int 1)) (mNil)))) (mCons (mTup (mCons (mC (.int 1)) (mCons (mC (.int 0)) (mNil)))) (mCons (mTup (mCons (mC (.int 2)) (mCons (mC (.int 4)) (mNil)))) (mCons (mTup (mCons (mTup (mCons (mC (.int 0)) (mCons (mTup (mCons (mC (.int 1)) (mCons (mC (.int 1)) (mNil)))) (mNil)))) (mNil))) (mCons (mFrz (mLst (mNil))) (mCons (mFrzD (mDNil)) (mCons (mOp powD (mC (.int 10)) (mC (.int 20))) (mNil))))))))))))))))))) ρ = pure (.list oddL) := by
  have e2 : negD (.int 1) = some (.int (-1)) := rfl
  have s0 : sz ([] : List PyData) = some [] := rfl
  have s1 : ∀ a : PyData, sz [a] = some [a] := fun _ => rfl
  have s2 : ∀ a b : PyData, sz [a, b] = some [a, b] := fun _ _ => rfl
  have s17 : sz oddL = some oddL := rfl
  have d0 : mDNil ρ = pure [] := rfl
  unfold oddL at s17 ⊢
  simp only [mSeq, mIfS, mRet, mRetN, mPass, mOrT, mAndT, mNotT, mAsB, mIsi, mName, mOwn, mC, mOp, mOp3, mCl, mCons, mNil, mFrz, mFrzD, mSeqI, mCall, mAndV, mOrV, mNotV, mIfE, mTup, mLst, mSet, mSetF, mSetD, mPar, mUn, mUn', mCut, mP, mNoP, mIsN, mIsNot, mRng, mKeys, mYes, gSet, gTupD, gsCons, gsNil, mFz, mDrop, mAsg, mAppend, ev0, frzAt, wipeE, rdV_vl, rdB_vl, rdB_ol, rdB_od, asB_b, asI_i, seqD_l, seqD_t, lenI1, lenI2, lenI3, lft_some, pure_bind, getE0, getES, List.set_cons_zero, List.set_cons_succ, List.map_cons, List.map_nil, List.cons_append, List.nil_append, List.replicate_succ, List.replicate_zero, List.append_nil, List.length_cons, List.length_nil, if_true, if_false, ite_true, ite_false, Bool.false_eq_true, reduceIte, Bool.not_true, Bool.not_false, Nat.reduceAdd, Nat.reduceSub, List.zip_cons_cons, List.zip_nil_right, List.foldl_cons, List.foldl_nil, e2, s0, s1, s2, s17, d0, pow20]
theorem deep_ok {D E : List (Int × PyData)} {ρ : Ev} (h : F1 D E 0 ρ) : Tri (mFor (mRng rng1D (mCons (mC (.int 34)) (mNil))) (gSet 7) (mSet 6 (mIfE (mAsB (mOp eqD (mCallS 1 1 mf_law_pick (mCons (mC (.int 5)) (mNil))) (mC (.int 0)))) (mFrz (mLst (mCons (mName 6) (mNil)))) (mTup (mCons (mName 6) (mNil))))) ρ) fun fl => ∃ ρ', fl = .nx ρ' ∧ F1 D E 34 ρ' := by
  have hr : rng1D [.int 34] = some (rngD 0 34) := rng1D_ok (by decide) (by decide)
  refine Tri.bind (P := fun ds => ds = rngD 0 34) (Tri.eq (by simp only [mSeq, mIfS, mRet, mRetN, mPass, mOrT, mAndT, mNotT, mAsB, mIsi, mName, mOwn, mC, mOp, mOp3, mCl, mCons, mNil, mFrz, mFrzD, mSeqI, mCall, mAndV, mOrV, mNotV, mIfE, mTup, mLst, mSet, mSetF, mSetD, mPar, mUn, mUn', mCut, mP, mNoP, mIsN, mIsNot, mRng, mKeys, mYes, gSet, gTupD, gsCons, gsNil, mFz, mDrop, mAsg, mAppend, ev0, frzAt, wipeE, rdV_vl, rdB_vl, rdB_ol, rdB_od, asB_b, asI_i, seqD_l, seqD_t, lenI1, lenI2, lenI3, lft_some, pure_bind, getE0, getES, List.set_cons_zero, List.set_cons_succ, List.map_cons, List.map_nil, List.cons_append, List.nil_append, List.replicate_succ, List.replicate_zero, List.append_nil, List.length_cons, List.length_nil, if_true, if_false, ite_true, ite_false, Bool.false_eq_true, reduceIte, Bool.not_true, Bool.not_false, Nat.reduceAdd, Nat.reduceSub, List.zip_cons_cons, List.zip_nil_right, List.foldl_cons, List.foldl_nil, hr]) rfl) fun ds e => ?_
  subst e
  have hl : (rngD 0 34).length = 34 := rfl
  have := t_forIx (I := F1 D E) (f := fun d ρ => do let ρ' ← gSet 7 d ρ; mSet 6 (mIfE (mAsB (mOp eqD (mCallS 1 1 mf_law_pick (mCons (mC (.int 5)) (mNil))) (mC (.int 0)))) (mFrz (mLst (mCons (mName 6) (mNil)))) (mTup (mCons (mName 6) (mNil)))) ρ') (rngD 0 34) h fun j d ρ hρ => ?_
  · rw [hl, Nat.zero_add] at this
    exact this
  obtain ⟨dp, hdp, x0, x3, x7, x8, x9, x10, x11, x12, x13, x14, x15, x16, rfl⟩ := hρ
  refine Tri.bind (P := fun ρ1 => ρ1 = ([x0, .src, .vl (.list oddL), x3, .vl (.tuple (D.map pk)), .vl (.tuple (E.map pk)), .vl dp, .vl d, x8, x9, x10, x11, x12, x13, x14, x15, x16] : Ev)) (Tri.pure rfl) fun ρ1 e => ?_
  subst e
  refine t_set ((t_ifE (Q := Dp (j + 1)) (B := fun _ => True) (t_asB (t_op (P := fun d => ∃ r : Int, d = .int r) (Q := fun d => d = .int 0) ((t_callS rfl (t_cons (t_c (t_nil ⟨rfl, pick_ok (by decide) (by decide)⟩)))).mono fun d ⟨r, e, _⟩ => ⟨r, e⟩) (t_c rfl) fun x y ⟨r, hx⟩ hy => ?_)) (fun _ => ?_) fun _ => ?_).mono fun z hz => ⟨_, rfl, z, hz, _, _, _, _, _, _, _, _, _, _, _, _, rfl⟩)
  · subst hx hy
    exact ⟨_, eqD_int r 0, _, rfl, trivial⟩
  · exact t_frz (t_lst (t_cons (t_name rfl (t_nil ⟨by show (1 : Nat) ≤ 1000000; decide, hdp.lst⟩))))
  · exact t_tup (t_cons (t_name rfl (t_nil ⟨by show (1 : Nat) ≤ 1000000; decide, hdp.tup⟩)))
theorem draw_ok {ρ : Ev} (h : F0 ρ) : Tri (mAsg (gTupD 3 (gsCons (gSet 4) (gsCons (gSet 5) (gsCons (gSet 6) (gsNil))))) (mTup (mCons (mCallS 1 1 mf_law_poly (mCons (mC (.int 4)) (mNil))) (mCons (mCallS 1 1 mf_law_poly (mCons (mC (.int 3)) (mNil))) (mCons (mCallS 1 1 mf_law_of (mCons (mName 2) (mNil))) (mNil))))) ρ) fun fl => ∃ ρ', fl = .nx ρ' ∧ ∃ D E, POk D ∧ POk E ∧ F1 D E 0 ρ' := by
  obtain ⟨x0, x3, x4, x5, x6, x7, x8, x9, x10, x11, x12, x13, x14, x15, x16, rfl⟩ := h
  refine Tri.bind (P := fun d => ∃ D E o, POk D ∧ POk E ∧ o ∈ oddL ∧ d = .tuple [.tuple (D.map pk), .tuple (E.map pk), o]) (t_tup (t_cons ((t_callS rfl (t_cons (t_c (t_nil ⟨rfl, poly_ok (by decide) (by decide)⟩)))).mono fun a ⟨D, ea, hD⟩ => t_cons ((t_callS rfl (t_cons (t_c (t_nil ⟨rfl, poly_ok (by decide) (by decide)⟩)))).mono fun b ⟨E, eb, hE⟩ => t_cons ((t_callS rfl (t_cons (t_name rfl (t_nil ⟨rfl, of_ok odd_ok.ne (Nat.le_trans odd_ok.len (by decide))⟩)))).mono fun o ho => t_nil ⟨by show (3 : Nat) ≤ 1000000; decide, D, E, o, hD, hE, ho, by rw [ea, eb]⟩))))) fun d ⟨D, E, o, hD, hE, ho, e⟩ => ?_
  subst e
  exact Tri.pure ⟨_, rfl, D, E, hD, hE, o, odd_dp ho, x0, x3, x7, x8, x9, x10, x11, x12, x13, x14, x15, x16, rfl⟩
theorem inner_ok {D : List (Int × PyData)} (hD : POk D) {ρ : Ev} (h : F2 D 20 ρ) : Tri (mFor (mSeqI (mOp addD (mOp addD (mOwn 8) (mName 2)) (mFrz (mLc (mRng rng1D (mCons (mC (.int 14)) (mNil))) (gSet 16) (mYes) (mCallS 2 1 (mf_law_bent 8) (mCons (mName 4) (mCons (mName 2) (mNil)))) [16])))) (gSet 9) mBody ρ) fun fl => ∃ ρ', fl = .nx ρ' ∧ F2 D 20 ρ' := by
  have h' := h
  obtain ⟨dp, vs, hdp, hvs, x0, x3, x5, x7, x9, x10, x11, x12, x13, x14, x15, x16, rfl⟩ := h'
  refine t_for (I := F2 D 20) (iter_ok hD hvs (by decide) x0 x3 x5 (.vl dp) x7 x9 x10 x11 x12 x13 x14 x15 x16) h (fun ds hds d hd ρ hρ => ?_) fun ρ' h => ⟨ρ', rfl, h⟩
  obtain ⟨dp, vs, hdp, hvs, x0, x3, x5, x7, x9, x10, x11, x12, x13, x14, x15, x16, rfl⟩ := hρ
  obtain ⟨y10, y11, e⟩ := body_ok hD (hds d hd) x0 .src (.vl (.list oddL)) x3 x5 (.vl dp) x7 (.ol vs) x10 x11 x12 x13 x14 x15 x16
  have := Tri.eq (P := fun fl => ∃ ρ', fl = .nx ρ' ∧ F2 D 20 ρ') e ⟨_, rfl, dp, vs, hdp, hvs, x0, x3, x5, x7, .vl d, y10, y11, x12, x13, x14, x15, x16, rfl⟩
  exact Tri.pure this
theorem self_ok {D : List (Int × PyData)} (hD : POk D) {ρ : Ev} {n : Nat} (h : F2 D n ρ) : Tri (mIfS (mAsB (mIsNot (mCall 2 mf_judge_poly (mCons (mName 4) (mCons (mName 4) (mNil)))))) (mRet (mC (.bool false))) (mPass) ρ) fun fl => ∃ ρ', fl = .nx ρ' ∧ F0 ρ' := by
  obtain ⟨dp, vs, hdp, hvs, x0, x3, x5, x7, x9, x10, x11, x12, x13, x14, x15, x16, rfl⟩ := h
  have hs := self_none hD
  refine Tri.eq (a := .nx _) ?_ ⟨_, rfl, x0, x3, .vl (.tuple (D.map pk)), x5, .vl dp, x7, .ol vs, x9, x10, x11, x12, x13, x14, x15, x16, rfl⟩
  generalize D.map pk = dl at *
  simp only [mSeq, mIfS, mRet, mRetN, mPass, mOrT, mAndT, mNotT, mAsB, mIsi, mName, mOwn, mC, mOp, mOp3, mCl, mCons, mNil, mFrz, mFrzD, mSeqI, mCall, mAndV, mOrV, mNotV, mIfE, mTup, mLst, mSet, mSetF, mSetD, mPar, mUn, mUn', mCut, mP, mNoP, mIsN, mIsNot, mRng, mKeys, mYes, gSet, gTupD, gsCons, gsNil, mFz, mDrop, mAsg, mAppend, ev0, frzAt, wipeE, rdV_vl, rdB_vl, rdB_ol, rdB_od, asB_b, asI_i, seqD_l, seqD_t, lenI1, lenI2, lenI3, lft_some, pure_bind, getE0, getES, List.set_cons_zero, List.set_cons_succ, List.map_cons, List.map_nil, List.cons_append, List.nil_append, List.replicate_succ, List.replicate_zero, List.append_nil, List.length_cons, List.length_nil, if_true, if_false, ite_true, ite_false, Bool.false_eq_true, reduceIte, Bool.not_true, Bool.not_false, Nat.reduceAdd, Nat.reduceSub, List.zip_cons_cons, List.zip_nil_right, List.foldl_cons, List.foldl_nil, hs, isN]
end K32
end

section
set_option Elab.async false
set_option linter.all false
set_option maxRecDepth 100000
set_option maxHeartbeats 1000000
namespace K32
open PySem PySem.Spec PyProof.Rows L2 DL
theorem law_tri : Tri (m_law (evL 17)) fun fl => fl = .rt (.bool true) := by
  have hr : rng1D [.int 3] = some (rngD 0 3) := rng1D_ok (by decide) (by decide)
  unfold m_law
  refine t_seq (I := F0) (t_set (Tri.eq (odd_set _) ⟨_, rfl, .no, .no, .no, .no, .no, .no, .no, .no, .no, .no, .no, .no, .no, .no, .no, rfl⟩)) fun ρ h => ?_
  refine t_seq (I := F0) (t_for (P := fun _ => True) (I := F0) (Tri.eq (a := rngD 0 3) (by simp only [mSeq, mIfS, mRet, mRetN, mPass, mOrT, mAndT, mNotT, mAsB, mIsi, mName, mOwn, mC, mOp, mOp3, mCl, mCons, mNil, mFrz, mFrzD, mSeqI, mCall, mAndV, mOrV, mNotV, mIfE, mTup, mLst, mSet, mSetF, mSetD, mPar, mUn, mUn', mCut, mP, mNoP, mIsN, mIsNot, mRng, mKeys, mYes, gSet, gTupD, gsCons, gsNil, mFz, mDrop, mAsg, mAppend, ev0, frzAt, wipeE, rdV_vl, rdB_vl, rdB_ol, rdB_od, asB_b, asI_i, seqD_l, seqD_t, lenI1, lenI2, lenI3, lft_some, pure_bind, getE0, getES, List.set_cons_zero, List.set_cons_succ, List.map_cons, List.map_nil, List.cons_append, List.nil_append, List.replicate_succ, List.replicate_zero, List.append_nil, List.length_cons, List.length_nil, if_true, if_false, ite_true, ite_false, Bool.false_eq_true, reduceIte, Bool.not_true, Bool.not_false, Nat.reduceAdd, Nat.reduceSub, List.zip_cons_cons, List.zip_nil_right, List.foldl_cons, List.foldl_nil, hr]) trivial) h (fun ds _ d _ ρ h => ?_) fun ρ' h => ⟨ρ', rfl, h⟩) fun ρ h => Tri.eq (last_ok ρ) rfl
  obtain ⟨x0, x3, x4, x5, x6, x7, x8, x9, x10, x11, x12, x13, x14, x15, x16, rfl⟩ := h
  refine Tri.pure ?_
  refine t_seq (I := fun ρ => ∃ D E, POk D ∧ POk E ∧ F1 D E 0 ρ) (draw_ok ⟨x0, _, x4, x5, x6, x7, x8, x9, x10, x11, x12, x13, x14, x15, x16, rfl⟩) fun ρ ⟨D, E, hD, hE, h⟩ => ?_
  clear x0 x3 x4 x5 x6 x7 x8 x9 x10 x11 x12 x13 x14 x15 x16
  refine t_seq (I := F1 D E 34) (deep_ok h) fun ρ h => ?_
  refine t_seq (I := F2 D 11) ?_ fun ρ h => ?_
  · obtain ⟨dp, hdp, x0, x3, x7, x8, x9, x10, x11, x12, x13, x14, x15, x16, rfl⟩ := h
    exact t_setF ((vals1 hD hE hdp x0 .src (.vl (.list oddL)) x3 x7 x8 x9 x10 x11 x12 x13 x14 x15 x16).mono fun xs hx => ⟨_, rfl, dp, xs, hdp, hx, x0, x3, .vl (.tuple (E.map pk)), x7, x9, x10, x11, x12, x13, x14, x15, x16, rfl⟩)
  refine t_seq (I := F2 D 12) ?_ fun ρ h => ?_
  · obtain ⟨dp, vs, hdp, hvs, x0, x3, x5, x7, x9, x10, x11, x12, x13, x14, x15, x16, rfl⟩ := h
    exact t_app rfl (by rw [hvs.1]; decide) (comp1 hD x0 .src (.vl (.list oddL)) x3 x5 (.vl dp) x7 (.ol vs) x9 x10 x11 x12 x13 x14 x15 x16) fun d hd => ⟨_, rfl, dp, _, hdp, hvs.app (Vn.one hd), x0, x3, x5, x7, x9, x10, x11, x12, x13, x14, x15, x16, rfl⟩
  refine t_seq (I := F2 D 13) ?_ fun ρ h => ?_
  · obtain ⟨dp, vs, hdp, hvs, x0, x3, x5, x7, x9, x10, x11, x12, x13, x14, x15, x16, rfl⟩ := h
    exact t_app rfl (by rw [hvs.1]; decide) (comp2 hD x0 .src (.vl (.list oddL)) x3 x5 (.vl dp) x7 (.ol vs) x9 x10 x11 x12 x13 x14 x15 x16) fun d hd => ⟨_, rfl, dp, _, hdp, hvs.app (Vn.one hd), x0, x3, x5, x7, x9, x10, x11, x12, x13, x14, x15, x16, rfl⟩
  refine t_seq (I := F2 D 16) ?_ fun ρ h => ?_
  · obtain ⟨dp, vs, hdp, hvs, x0, x3, x5, x7, x9, x10, x11, x12, x13, x14, x15, x16, rfl⟩ := h
    exact t_more (n := 13) (m := 3) rfl hvs (by decide) (vals2 hD x0 .src (.vl (.list oddL)) x3 x5 (.vl dp) x7 (.ol vs) x9 x10 x11 x12 x13 x14 x15 x16) fun ys hys => ⟨_, rfl, dp, ys, hdp, hys, x0, x3, x5, x7, x9, x10, x11, x12, x13, x14, x15, x16, rfl⟩
  refine t_seq (I := F2 D 20) ?_ fun ρ h => ?_
  · obtain ⟨dp, vs, hdp, hvs, x0, x3, x5, x7, x9, x10, x11, x12, x13, x14, x15, x16, rfl⟩ := h
    exact t_more (n := 16) (m := 4) rfl hvs (by decide) (vals3 hD hdp x0 .src (.vl (.list oddL)) x3 x5 x7 (.ol vs) x9 x10 x11 x12 x13 x14 x15 x16) fun ys hys => ⟨_, rfl, dp, ys, hdp, hys, x0, x3, x5, x7, x9, x10, x11, x12, x13, x14, x15, x16, rfl⟩
  exact t_seq (I := F2 D 20) (inner_ok hD h) fun ρ h => self_ok hD h
theorem law_ok : LawOk 17 m_law := fun ns hl _ => by
  obtain ⟨a, st', e, _, h⟩ := law_tri (openS ns) (openS_ok hl)
  subst h
  exact ⟨st', e⟩
end K32
end

section
set_option Elab.async false
set_option linter.all false
set_option maxRecDepth 100000
set_option maxHeartbeats 4000000
namespace K32
open PySem PySem.Spec PyProof.Rows L2 DL
theorem all_mk {l : PySem.W.OpenLaw} {w : World} {K : PySem.W.Frag} {h : Heap} {mg : Str → Option Value} {fa f0 f1 f2 f3 f4 f5 f6 f7 f8 f9 f10 f11 f12 f13 f14 f15 : Addr} (X : K.In h) (G : h.Ns mainGlobals mg) (hfa : mg "law" = some (.ref fa)) (hm : LawOk 17 m_law)
    {od0 an0 od1 an1 od2 an2 od3 an3 od4 an4 od5 an5 od6 an6 od7 an7 od8 an8 od9 an9 od10 an10 od11 an11 od12 an12 od13 an13 od14 an14 od15 an15 : Option Addr} {sl0 sl1 sl2 sl3 sl4 sl5 sl6 sl7 sl8 sl9 sl10 sl11 sl12 sl13 sl14 sl15 : Array (Option Value)} {oc0 kV0 dc0 pm0 cd0 ct0 oc1 kV1 dc1 pm1 cd1 ct1 oc2 kV2 dc2 pm2 cd2 ct2 oc3 kV3 dc3 pm3 cd3 ct3 oc4 kV4 dc4 pm4 cd4 ct4 oc5 kV5 dc5 pm5 cd5 ct5 oc6 kV6 dc6 pm6 cd6 ct6 oc7 kV7 dc7 pm7 cd7 ct7 oc8 kV8 dc8 pm8 cd8 ct8 oc9 kV9 dc9 pm9 cd9 ct9 oc10 kV10 dc10 pm10 cd10 ct10 oc11 kV11 dc11 pm11 cd11 ct11 oc12 kV12 dc12 pm12 cd12 ct12 oc13 kV13 dc13 pm13 cd13 ct13 oc14 kV14 dc14 pm14 cd14 ct14 oc15 kV15 dc15 pm15 cd15 ct15 : Value} {z_ZERO_0 : Addr} {n_z_ZERO_0 : Nat} {s_z_ZERO_0 : Array (Option Value)} {t_ZERO_1 : Tok} {t_ZERO_2 : Tok}
    (a0 : PySem.W.nsIn K mainGlobals "is_integer" = some (some (.ref f0))) (l0 : K.lookup f0 = some ⟨oc0, od0, .func (PySem.W.fnOf "is_integer" "is_integer" (defArgs s_is_integer) (defBody s_is_integer) (defScope s_is_integer) .none kV0 dc0 pm0 an0 cd0 ct0), sl0⟩) (c0 : PySem.W.codeIn K cd0 "is_integer" = true) (k0 : PySem.W.keepIn K (.ref f0) = true)
    (a1 : PySem.W.nsIn K mainGlobals "is_fraction" = some (some (.ref f1))) (l1 : K.lookup f1 = some ⟨oc1, od1, .func (PySem.W.fnOf "is_fraction" "is_fraction" (defArgs s_is_fraction) (defBody s_is_fraction) (defScope s_is_fraction) .none kV1 dc1 pm1 an1 cd1 ct1), sl1⟩) (c1 : PySem.W.codeIn K cd1 "is_fraction" = true) (k1 : PySem.W.keepIn K (.ref f1) = true)
    (a2 : PySem.W.nsIn K mainGlobals "is_poly" = some (some (.ref f2))) (l2 : K.lookup f2 = some ⟨oc2, od2, .func (PySem.W.fnOf "is_poly" "is_poly" (defArgs s_is_poly) (defBody s_is_poly) (defScope s_is_poly) .none kV2 dc2 pm2 an2 cd2 ct2), sl2⟩) (c2 : PySem.W.codeIn K cd2 "is_poly" = true) (k2 : PySem.W.keepIn K (.ref f2) = true)
    (a3 : PySem.W.nsIn K mainGlobals "judge_poly" = some (some (.ref f3))) (l3 : K.lookup f3 = some ⟨oc3, od3, .func (PySem.W.fnOf "judge_poly" "judge_poly" (defArgs s_judge_poly) (defBody s_judge_poly) (defScope s_judge_poly) .none kV3 dc3 pm3 an3 cd3 ct3), sl3⟩) (c3 : PySem.W.codeIn K cd3 "judge_poly" = true) (k3 : PySem.W.keepIn K (.ref f3) = true)
    (a4 : PySem.W.nsIn K mainGlobals "_law_pick" = some (some (.ref f4))) (l4 : K.lookup f4 = some ⟨oc4, od4, .func (PySem.W.fnOf "_law_pick" "_law_pick" (defArgs s_law_pick) (defBody s_law_pick) (defScope s_law_pick) .none kV4 dc4 pm4 an4 cd4 ct4), sl4⟩) (c4 : PySem.W.codeIn K cd4 "_law_pick" = true) (k4 : PySem.W.keepIn K (.ref f4) = true)
    (a5 : PySem.W.nsIn K mainGlobals "_law_of" = some (some (.ref f5))) (l5 : K.lookup f5 = some ⟨oc5, od5, .func (PySem.W.fnOf "_law_of" "_law_of" (defArgs s_law_of) (defBody s_law_of) (defScope s_law_of) .none kV5 dc5 pm5 an5 cd5 ct5), sl5⟩) (c5 : PySem.W.codeIn K cd5 "_law_of" = true) (k5 : PySem.W.keepIn K (.ref f5) = true)
    (a6 : PySem.W.nsIn K mainGlobals "_law_fraction" = some (some (.ref f6))) (l6 : K.lookup f6 = some ⟨oc6, od6, .func (PySem.W.fnOf "_law_fraction" "_law_fraction" (defArgs s_law_fraction) (defBody s_law_fraction) (defScope s_law_fraction) .none kV6 dc6 pm6 an6 cd6 ct6), sl6⟩) (c6 : PySem.W.codeIn K cd6 "_law_fraction" = true) (k6 : PySem.W.keepIn K (.ref f6) = true)
    (a7 : PySem.W.nsIn K mainGlobals "_law_drawn_fraction" = some (some (.ref f7))) (l7 : K.lookup f7 = some ⟨oc7, od7, .func (PySem.W.fnOf "_law_drawn_fraction" "_law_drawn_fraction" (defArgs s_law_drawn_fraction) (defBody s_law_drawn_fraction) (defScope s_law_drawn_fraction) .none kV7 dc7 pm7 an7 cd7 ct7), sl7⟩) (c7 : PySem.W.codeIn K cd7 "_law_drawn_fraction" = true) (k7 : PySem.W.keepIn K (.ref f7) = true)
    (a8 : PySem.W.nsIn K mainGlobals "_law_poly" = some (some (.ref f8))) (l8 : K.lookup f8 = some ⟨oc8, od8, .func (PySem.W.fnOf "_law_poly" "_law_poly" (defArgs s_law_poly) (defBody s_law_poly) (defScope s_law_poly) .none kV8 dc8 pm8 an8 cd8 ct8), sl8⟩) (c8 : PySem.W.codeIn K cd8 "_law_poly" = true) (k8 : PySem.W.keepIn K (.ref f8) = true)
    (a9 : PySem.W.nsIn K mainGlobals "_law_bent" = some (some (.ref f9))) (l9 : K.lookup f9 = some ⟨oc9, od9, .func (PySem.W.fnOf "_law_bent" "_law_bent" (defArgs s_law_bent) (defBody s_law_bent) (defScope s_law_bent) .none kV9 dc9 pm9 an9 cd9 ct9), sl9⟩) (c9 : PySem.W.codeIn K cd9 "_law_bent" = true) (k9 : PySem.W.keepIn K (.ref f9) = true)
    (a10 : PySem.W.nsIn K mainGlobals "_law_is_int" = some (some (.ref f10))) (l10 : K.lookup f10 = some ⟨oc10, od10, .func (PySem.W.fnOf "_law_is_int" "_law_is_int" (defArgs s_law_is_int) (defBody s_law_is_int) (defScope s_law_is_int) .none kV10 dc10 pm10 an10 cd10 ct10), sl10⟩) (c10 : PySem.W.codeIn K cd10 "_law_is_int" = true) (k10 : PySem.W.keepIn K (.ref f10) = true)
    (a11 : PySem.W.nsIn K mainGlobals "_law_is_fraction" = some (some (.ref f11))) (l11 : K.lookup f11 = some ⟨oc11, od11, .func (PySem.W.fnOf "_law_is_fraction" "_law_is_fraction" (defArgs s_law_is_fraction) (defBody s_law_is_fraction) (defScope s_law_is_fraction) .none kV11 dc11 pm11 an11 cd11 ct11), sl11⟩) (c11 : PySem.W.codeIn K cd11 "_law_is_fraction" = true) (k11 : PySem.W.keepIn K (.ref f11) = true)
    (a12 : PySem.W.nsIn K mainGlobals "_law_is_poly" = some (some (.ref f12))) (l12 : K.lookup f12 = some ⟨oc12, od12, .func (PySem.W.fnOf "_law_is_poly" "_law_is_poly" (defArgs s_law_is_poly) (defBody s_law_is_poly) (defScope s_law_is_poly) .none kV12 dc12 pm12 an12 cd12 ct12), sl12⟩) (c12 : PySem.W.codeIn K cd12 "_law_is_poly" = true) (k12 : PySem.W.keepIn K (.ref f12) = true)
    (a13 : PySem.W.nsIn K mainGlobals "_law_fault" = some (some (.ref f13))) (l13 : K.lookup f13 = some ⟨oc13, od13, .func (PySem.W.fnOf "_law_fault" "_law_fault" (defArgs s_law_fault) (defBody s_law_fault) (defScope s_law_fault) .none kV13 dc13 pm13 an13 cd13 ct13), sl13⟩) (c13 : PySem.W.codeIn K cd13 "_law_fault" = true) (k13 : PySem.W.keepIn K (.ref f13) = true)
    (a14 : PySem.W.nsIn K mainGlobals "_law_open_cells" = some (some (.ref f14))) (l14 : K.lookup f14 = some ⟨oc14, od14, .func (PySem.W.fnOf "_law_open_cells" "_law_open_cells" (defArgs s_law_open_cells) (defBody s_law_open_cells) (defScope s_law_open_cells) .none kV14 dc14 pm14 an14 cd14 ct14), sl14⟩) (c14 : PySem.W.codeIn K cd14 "_law_open_cells" = true) (k14 : PySem.W.keepIn K (.ref f14) = true)
    (a15 : PySem.W.nsIn K mainGlobals "law" = some (some (.ref f15))) (l15 : K.lookup f15 = some ⟨oc15, od15, .func (PySem.W.fnOf "law" "law" (defArgs s_law) (defBody s_law) (defScope s_law) .none kV15 dc15 pm15 an15 cd15 ct15), sl15⟩) (c15 : PySem.W.codeIn K cd15 "law" = true) (k15 : PySem.W.keepIn K (.ref f15) = true)
    (n_abs : PySem.W.nsIn K mainGlobals "abs" = some none)
    (n_all : PySem.W.nsIn K mainGlobals "all" = some none)
    (n_bool : PySem.W.nsIn K mainGlobals "bool" = some none)
    (n_dict : PySem.W.nsIn K mainGlobals "dict" = some none)
    (n_int : PySem.W.nsIn K mainGlobals "int" = some none)
    (n_isinstance : PySem.W.nsIn K mainGlobals "isinstance" = some none)
    (n_len : PySem.W.nsIn K mainGlobals "len" = some none)
    (n_list : PySem.W.nsIn K mainGlobals "list" = some none)
    (n_range : PySem.W.nsIn K mainGlobals "range" = some none)
    (n_repr : PySem.W.nsIn K mainGlobals "repr" = some none)
    (n_sorted : PySem.W.nsIn K mainGlobals "sorted" = some none)
    (n_tuple : PySem.W.nsIn K mainGlobals "tuple" = some none)
    (n_zip : PySem.W.nsIn K mainGlobals "zip" = some none)
    (i_gcd : PySem.W.nsIn K mainGlobals "gcd" = some (some (.builtin "math.gcd")))
    (w_ZERO : PySem.W.nsIn K mainGlobals "ZERO" = some (some (.ref z_ZERO_0)))
    (l_z_ZERO_0 : K.lookup z_ZERO_0 = some ⟨.type "tuple", none, .seq #[.int 0 t_ZERO_1, .int 1 t_ZERO_2] n_z_ZERO_0, s_z_ZERO_0⟩) :
    ∃ fd : FuncData, (∀ (s : Shared) (v : Value), BindsTo s fd ⟨[v], []⟩ [("script", v)]) ∧ ∀ base : Heap, K.In base → base.Ns mainGlobals mg → FnG l.prog w K mg base 11 fa fd ["script"] (spLaw K) := by
  have e := hfa.symm.trans (PySem.W.mg_of X G a15)
  cases e
  have T : Txt K mg := ⟨PySem.W.mg_none_of X G n_abs, PySem.W.mg_none_of X G n_all, PySem.W.mg_none_of X G n_bool, PySem.W.mg_none_of X G n_dict, PySem.W.mg_none_of X G n_int, PySem.W.mg_none_of X G n_isinstance, PySem.W.mg_none_of X G n_len, PySem.W.mg_none_of X G n_list, PySem.W.mg_none_of X G n_range, PySem.W.mg_none_of X G n_repr, PySem.W.mg_none_of X G n_sorted, PySem.W.mg_none_of X G n_tuple, PySem.W.mg_none_of X G n_zip, PySem.W.mg_of X G i_gcd, ⟨_, PySem.W.mg_of X G w_ZERO, .ref z_ZERO_0, rfl, fun F => .tup (tpK_mk l_z_ZERO_0 (by show (2 : Nat) ≤ 1000; decide) (vals_int (vals_int (.nil)))) (.cons (.int 0) (.cons (.int 1) (.nil)))⟩⟩
  have F0 := fun_mk (st := s_is_integer) l0 c0 k0
  have b0 := F0.binds (ps := ["value"]) fun _ _ _ _ _ _ us hl => match us, hl with | [_], _ => rfl
  have F1 := fun_mk (st := s_is_fraction) l1 c1 k1
  have b1 := F1.binds (ps := ["value"]) fun _ _ _ _ _ _ us hl => match us, hl with | [_], _ => rfl
  have F2 := fun_mk (st := s_is_poly) l2 c2 k2
  have b2 := F2.binds (ps := ["value"]) fun _ _ _ _ _ _ us hl => match us, hl with | [_], _ => rfl
  have F3 := fun_mk (st := s_judge_poly) l3 c3 k3
  have b3 := F3.binds (ps := ["due", "value"]) fun _ _ _ _ _ _ us hl => match us, hl with | [_, _], _ => rfl
  have F4 := fun_mk (st := s_law_pick) l4 c4 k4
  have b4 := F4.binds (ps := ["source", "most"]) fun _ _ _ _ _ _ us hl => match us, hl with | [_, _], _ => rfl
  have F5 := fun_mk (st := s_law_of) l5 c5 k5
  have b5 := F5.binds (ps := ["source", "some"]) fun _ _ _ _ _ _ us hl => match us, hl with | [_, _], _ => rfl
  have F6 := fun_mk (st := s_law_fraction) l6 c6 k6
  have b6 := F6.binds (ps := ["p", "q"]) fun _ _ _ _ _ _ us hl => match us, hl with | [_, _], _ => rfl
  have F7 := fun_mk (st := s_law_drawn_fraction) l7 c7 k7
  have b7 := F7.binds (ps := ["source"]) fun _ _ _ _ _ _ us hl => match us, hl with | [_], _ => rfl
  have F8 := fun_mk (st := s_law_poly) l8 c8 k8
  have b8 := F8.binds (ps := ["source", "many"]) fun _ _ _ _ _ _ us hl => match us, hl with | [_, _], _ => rfl
  have F9 := fun_mk (st := s_law_bent) l9 c9 k9
  have b9 := F9.binds (ps := ["source", "value", "odd"]) fun _ _ _ _ _ _ us hl => match us, hl with | [_, _, _], _ => rfl
  have F10 := fun_mk (st := s_law_is_int) l10 c10 k10
  have b10 := F10.binds (ps := ["value"]) fun _ _ _ _ _ _ us hl => match us, hl with | [_], _ => rfl
  have F11 := fun_mk (st := s_law_is_fraction) l11 c11 k11
  have b11 := F11.binds (ps := ["value"]) fun _ _ _ _ _ _ us hl => match us, hl with | [_], _ => rfl
  have F12 := fun_mk (st := s_law_is_poly) l12 c12 k12
  have b12 := F12.binds (ps := ["value"]) fun _ _ _ _ _ _ us hl => match us, hl with | [_], _ => rfl
  have F13 := fun_mk (st := s_law_fault) l13 c13 k13
  have b13 := F13.binds (ps := ["due", "value"]) fun _ _ _ _ _ _ us hl => match us, hl with | [_, _], _ => rfl
  have F14 := fun_mk (st := s_law_open_cells) l14 c14 k14
  have b14 := F14.binds (ps := ["script"]) fun _ _ _ _ _ _ us hl => match us, hl with | [_], _ => rfl
  have F15 := fun_mk (st := s_law) l15 c15 k15
  refine ⟨PySem.W.fnOf "law" "law" (defArgs s_law) (defBody s_law) (defScope s_law) .none kV15 dc15 pm15 an15 cd15 ct15, fun s v => .of_eq rfl, fun base _ _ => ?_⟩
  · show FnG l.prog w K mg base 11 fa (PySem.W.fnOf "law" "law" (defArgs s_law) (defBody s_law) (defScope s_law) .none kV15 dc15 pm15 an15 cd15 ct15) ["script"] (spLaw K)
    have D0 : Def l.prog w K mg base 1 "is_integer" ["value"] false mf_is_integer := ⟨f0, _, w_is_integer (k := 0) F0 T , PySem.W.mg_of X G a0, k0, b0⟩
    have D1 : Def l.prog w K mg base 2 "is_fraction" ["value"] false mf_is_fraction := ⟨f1, _, w_is_fraction (k := 1) F1 T (D0.mono (by decide)), PySem.W.mg_of X G a1, k1, b1⟩
    have D2 : Def l.prog w K mg base 3 "is_poly" ["value"] false mf_is_poly := ⟨f2, _, w_is_poly (k := 2) F2 T (D1.mono (by decide)) (D0.mono (by decide)), PySem.W.mg_of X G a2, k2, b2⟩
    have D3 : Def l.prog w K mg base 4 "judge_poly" ["due", "value"] false mf_judge_poly := ⟨f3, _, w_judge_poly (k := 3) F3 T (D2.mono (by decide)), PySem.W.mg_of X G a3, k3, b3⟩
    have D4 : Def l.prog w K mg base 1 "_law_pick" ["source", "most"] true mf_law_pick := ⟨f4, _, w_law_pick (k := 0) F4 T , PySem.W.mg_of X G a4, k4, b4⟩
    have D5 : Def l.prog w K mg base 2 "_law_of" ["source", "some"] true mf_law_of := ⟨f5, _, w_law_of (k := 1) F5 T (D4.mono (by decide)), PySem.W.mg_of X G a5, k5, b5⟩
    have D6 : Def l.prog w K mg base 1 "_law_fraction" ["p", "q"] false mf_law_fraction := ⟨f6, _, w_law_fraction (k := 0) F6 T , PySem.W.mg_of X G a6, k6, b6⟩
    have D7 : Def l.prog w K mg base 3 "_law_drawn_fraction" ["source"] true mf_law_drawn_fraction := ⟨f7, _, w_law_drawn_fraction (k := 2) F7 T (D6.mono (by decide)) (D5.mono (by decide)), PySem.W.mg_of X G a7, k7, b7⟩
    have D8 : Def l.prog w K mg base 4 "_law_poly" ["source", "many"] true mf_law_poly := ⟨f8, _, w_law_poly (k := 3) F8 T (D4.mono (by decide)) (D7.mono (by decide)), PySem.W.mg_of X G a8, k8, b8⟩
    have D9 : Def l.prog w K mg base 10 "_law_bent" ["source", "value", "odd"] true (mf_law_bent 8) := ⟨f9, _, r_law_bent F9 T (D4.mono (by decide : _ ≤ 2)) (D5.mono (by decide : _ ≤ 2)) (PySem.W.mg_of X G a9) k9 b9 8, PySem.W.mg_of X G a9, k9, b9⟩
    have D10 : Def l.prog w K mg base 1 "_law_is_int" ["value"] false mf_law_is_int := ⟨f10, _, w_law_is_int (k := 0) F10 T , PySem.W.mg_of X G a10, k10, b10⟩
    have D11 : Def l.prog w K mg base 2 "_law_is_fraction" ["value"] false mf_law_is_fraction := ⟨f11, _, w_law_is_fraction (k := 1) F11 T (D10.mono (by decide)) (D6.mono (by decide)), PySem.W.mg_of X G a11, k11, b11⟩
    have D12 : Def l.prog w K mg base 3 "_law_is_poly" ["value"] false mf_law_is_poly := ⟨f12, _, w_law_is_poly (k := 2) F12 T (D10.mono (by decide)) (D11.mono (by decide)), PySem.W.mg_of X G a12, k12, b12⟩
    have D13 : Def l.prog w K mg base 4 "_law_fault" ["due", "value"] false mf_law_fault := ⟨f13, _, w_law_fault (k := 3) F13 T (D12.mono (by decide)), PySem.W.mg_of X G a13, k13, b13⟩
    exact w_law (k := 10) F15 T (w_law_open_cells (k := 9) F14 (PySem.W.mg_none_of X G n_int) (PySem.W.mg_none_of X G n_abs)) (PySem.W.mg_of X G a14) k14 b14 (D5.mono (by decide)) (D8.mono (by decide)) (D4.mono (by decide)) (D9.mono (by decide)) (D13.mono (by decide)) (D3.mono (by decide)) (D1.mono (by decide)) (D2.mono (by decide)) (D11.mono (by decide)) (D12.mono (by decide)) hm
end K32
end

section
set_option Elab.async false
set_option linter.all false
open PySem PySem.W PyProof.Rows
set_option maxRecDepth 100000 in
set_option maxHeartbeats 0 in
theorem PySem.Challenge.cw_dicevalues_k32_polynomials_judged_holds : PySem.Challenge.rw_dicevalues_k32_polynomials_judged.Holds := by
  w_on; o_law; k_head; (case hw => w_witness2)
  k_fill
  refine DL.walk_ofG (l := PySem.Challenge.rw_dicevalues_k32_polynomials_judged) (k := 11) rfl rfl ⟨rfl, by decide, by decide⟩ (fun w h Y => PySem.W.kIn_of Y) ?F
  case F =>
    intro w mg fa h KX G hmg
    refine' K32.all_mk KX G hmg K32.law_ok ?a0 ?l0 ?c0 ?k0 ?a1 ?l1 ?c1 ?k1 ?a2 ?l2 ?c2 ?k2 ?a3 ?l3 ?c3 ?k3 ?a4 ?l4 ?c4 ?k4 ?a5 ?l5 ?c5 ?k5 ?a6 ?l6 ?c6 ?k6 ?a7 ?l7 ?c7 ?k7 ?a8 ?l8 ?c8 ?k8 ?a9 ?l9 ?c9 ?k9 ?a10 ?l10 ?c10 ?k10 ?a11 ?l11 ?c11 ?k11 ?a12 ?l12 ?c12 ?k12 ?a13 ?l13 ?c13 ?k13 ?a14 ?l14 ?c14 ?k14 ?a15 ?l15 ?c15 ?k15 ?n_abs ?n_all ?n_bool ?n_dict ?n_int ?n_isinstance ?n_len ?n_list ?n_range ?n_repr ?n_sorted ?n_tuple ?n_zip ?i_gcd ?w_ZERO ?l_z_ZERO_0
    (case a0 => k_is)
    (case l0 => k_is)
    (case c0 => k_is)
    (case k0 => k_is)
    (case a1 => k_is)
    (case l1 => k_is)
    (case c1 => k_is)
    (case k1 => k_is)
    (case a2 => k_is)
    (case l2 => k_is)
    (case c2 => k_is)
    (case k2 => k_is)
    (case a3 => k_is)
    (case l3 => k_is)
    (case c3 => k_is)
    (case k3 => k_is)
    (case a4 => k_is)
    (case l4 => k_is)
    (case c4 => k_is)
    (case k4 => k_is)
    (case a5 => k_is)
    (case l5 => k_is)
    (case c5 => k_is)
    (case k5 => k_is)
    (case a6 => k_is)
    (case l6 => k_is)
    (case c6 => k_is)
    (case k6 => k_is)
    (case a7 => k_is)
    (case l7 => k_is)
    (case c7 => k_is)
    (case k7 => k_is)
    (case a8 => k_is)
    (case l8 => k_is)
    (case c8 => k_is)
    (case k8 => k_is)
    (case a9 => k_is)
    (case l9 => k_is)
    (case c9 => k_is)
    (case k9 => k_is)
    (case a10 => k_is)
    (case l10 => k_is)
    (case c10 => k_is)
    (case k10 => k_is)
    (case a11 => k_is)
    (case l11 => k_is)
    (case c11 => k_is)
    (case k11 => k_is)
    (case a12 => k_is)
    (case l12 => k_is)
    (case c12 => k_is)
    (case k12 => k_is)
    (case a13 => k_is)
    (case l13 => k_is)
    (case c13 => k_is)
    (case k13 => k_is)
    (case a14 => k_is)
    (case l14 => k_is)
    (case c14 => k_is)
    (case k14 => k_is)
    (case a15 => k_is)
    (case l15 => k_is)
    (case c15 => k_is)
    (case k15 => k_is)
    (case n_abs => k_is)
    (case n_all => k_is)
    (case n_bool => k_is)
    (case n_dict => k_is)
    (case n_int => k_is)
    (case n_isinstance => k_is)
    (case n_len => k_is)
    (case n_list => k_is)
    (case n_range => k_is)
    (case n_repr => k_is)
    (case n_sorted => k_is)
    (case n_tuple => k_is)
    (case n_zip => k_is)
    (case i_gcd => k_is)
    (case w_ZERO => k_is)
    (case l_z_ZERO_0 => k_is)
end
