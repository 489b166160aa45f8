import PyProof.Rows.All
import Wide.All
import OpenK.AllK
import Wide.FinOn
import HandS.Base
import HandS.Call
import HandS.List
import HandS.Comp
import HandS.Ends
import HandS.Dict
import HandS.Iter
import HandS.Text
import HandS.Words
import HandS.IsInst
import HandS.Wide
import HandS.EndBits
import PySem.Challenge.RW_selfloom_k50_wrapped_operations
set_option Elab.async false
set_option linter.all false
set_option maxRecDepth 100000
set_option maxHeartbeats 4000000
/-! Y: readings over data. A slot holds frozen data (z d) or names an owned object (r i); owned objects are kept apart from the ghost heap G, in which all frozen data stands. -/
namespace Y
open PySem L2

theorem kept_trans {H H1 H2 : Hp} (a : Same H H1) (b : Same H1 H2) : Same H H2 := fun c o h => b c o (a c o h)
theorem kept_new {H : Hp} {p : Addr} {o : HO} (h : H p = none) : Same H (upd H p o) := fun a u e => by
  rw [upd_ne (ne_of_none e h)]; exact e
theorem kept_rd {H H' : Hp} {a : Addr} {u : HO} (e : Same H H') (h : Rd H a u) : Rd H' a u := by
  rcases h with h | ⟨o, h⟩
  · exact Or.inl (e a _ h)
  · exact Or.inr ⟨o, e a _ h⟩
theorem kept_l {K : PySem.W.Frag} {H H' : Hp} {a : Addr} {xs : List V} (e : Same H H') (h : SqL K H a xs) : SqL K H' a xs := by
  rcases h with h | h
  · exact Or.inl (kept_rd e h)
  · exact Or.inr h
theorem kept_t {K : PySem.W.Frag} {H H' : Hp} {a : Addr} {xs : List V} (e : Same H H') (h : SqT K H a xs) : SqT K H' a xs := by
  rcases h with h | h
  · exact Or.inl (kept_rd e h)
  · exact Or.inr h
mutual
theorem dp_up {K : PySem.W.Frag} {H H' : Hp} (e : Same H H') : ∀ (d : PyData) (v : V), Dp K H v d → Dp K H' v d
  | .none, _, h => by cases h; exact .non
  | .bool b, _, h => by cases h; exact .bl b
  | .int i, _, h => by cases h; exact .int i
  | .str x, _, h => by cases h; exact .str x
  | .list ds, _, h => by
    cases h with
    | lst hs ha => exact .lst (kept_l e hs) (dps_up e ds _ ha)
  | .tuple ds, _, h => by
    cases h with
    | tup hs ha => exact .tup (kept_t e hs) (dps_up e ds _ ha)
  | .dict _, _, h => by cases h
theorem dps_up {K : PySem.W.Frag} {H H' : Hp} (e : Same H H') : ∀ (ds : List PyData) (vs : List V), DpAll K H vs ds → DpAll K H' vs ds
  | [], _, h => by cases h; exact .nil
  | d :: ds, _, h => by
    cases h with
    | cons h1 h2 => exact .cons (dp_up e d _ h1) (dps_up e ds _ h2)
end

/-- what a slot, or a place of an owned list, holds -/
inductive OE where
  | z (d : PyData)
  | r (i : Nat)
/-- an owned object -/
inductive OD where
  | gone
  | lst (xs : List OE)
  | dK (kvs : List (Key × OE))
structure Gh where
  G : Hp
  H : Hp
  sub : Same G H
structure En where
  sl : List (Option OE)
  ow : List OD

section
variable (K : PySem.W.Frag)
def OeR (G : Hp) (ρ : List Addr) : OE → V → Prop
  | .z d, v => Dp K G v d
  | .r i, v => ∃ a, ρ[i]? = some a ∧ v = .ref a
abbrev OesR (G : Hp) (ρ : List Addr) (xs : List OE) (vs : List V) : Prop := Paired (OeR K G ρ) xs vs
def OdR (G : Hp) (ρ : List Addr) (o : Option HO) : OD → Prop
  | .gone => True
  | .lst xs => ∃ vs, o = some (.lst vs) ∧ OesR K G ρ xs vs
  | .dK kvs => ∃ ws, o = some (.dK ws) ∧ Paired (fun (p : Key × OE) (q : Key × V) => p.1 = q.1 ∧ OeR K G ρ p.2 q.2) kvs ws
structure Own (s : Gh) (ρ : List Addr) (ow : List OD) : Prop where
  len : ρ.length = ow.length
  nd : ρ.Nodup
  ex : ∀ (i : Nat) (a : Addr), ρ[i]? = some a → s.H a ≠ none
  rep : ∀ (i : Nat) (a : Addr) (o : OD), ρ[i]? = some a → ow[i]? = some o → o ≠ .gone → s.G a = none ∧ OdR K s.G ρ (s.H a) o
structure Bs where
  G : Hp
  H : Hp
  io : List Addr
structure Fr (B : Bs) (s : Gh) (ρ : List Addr) : Prop where
  io : ∃ t, ρ = B.io ++ t ∧ ∀ a ∈ t, B.H a = none
  h : ∀ a o, a ∉ B.io → B.H a = some o → s.H a = some o
  p : ∀ a, B.H a ≠ none → s.H a ≠ none
  g : Same B.G s.G
  n : ∀ a, B.H a ≠ none → s.G a = B.G a
structure Sat (B : Bs) (σ : St) (s : Gh) (ρ : List Addr) (E : En) : Prop where
  own : Own K s ρ E.ow
  fr : Fr B s ρ
  len : σ.length = E.sl.length
  sl : ∀ (i : Nat) (x : OE), E.sl[i]? = some (some x) → ∃ v, σ[i]? = some (some v) ∧ OeR K s.G ρ x v
end
structure Step (s : Gh) (ρ : List Addr) (s' : Gh) (ρ' : List Addr) : Prop where
  g : Same s.G s'.G
  r : ∃ t, ρ' = ρ ++ t
theorem Step.refl (s : Gh) (ρ : List Addr) : Step s ρ s ρ := ⟨fun _ _ h => h, [], by simp⟩
theorem Step.trans {s s1 s2 : Gh} {ρ ρ1 ρ2 : List Addr} (a : Step s ρ s1 ρ1) (b : Step s1 ρ1 s2 ρ2) : Step s ρ s2 ρ2 := by
  obtain ⟨t, e⟩ := a.r
  obtain ⟨t', e'⟩ := b.r
  exact ⟨kept_trans a.g b.g, t ++ t', by rw [e', e, List.append_assoc]⟩

section
variable {K : PySem.W.Frag} {G G' : Hp} {ρ ρ' : List Addr}
theorem ix_app {α : Type} {l t : List α} {i : Nat} {a : α} (h : l[i]? = some a) : (l ++ t)[i]? = some a := by
  rw [List.getElem?_append_left (List.getElem?_eq_some_iff.mp h).1]; exact h
theorem oe_up (e : Same G G') (r : ∃ t, ρ' = ρ ++ t) {x : OE} {v : V} (h : OeR K G ρ x v) : OeR K G' ρ' x v := by
  cases x with
  | z d => exact dp_up e d v h
  | r i =>
    obtain ⟨a, ha, hv⟩ := h
    obtain ⟨t, rfl⟩ := r
    exact ⟨a, ix_app ha, hv⟩
theorem paired_up {α β : Type} {F F' : α → β → Prop} : ∀ {xs : List α} {ys : List β}, Paired F xs ys → (∀ a b, F a b → F' a b) → Paired F' xs ys
  | _, _, .nil, _ => .nil
  | _, _, .cons r t, f => .cons (f _ _ r) (paired_up t f)
theorem oes_up (e : Same G G') (r : ∃ t, ρ' = ρ ++ t) {xs : List OE} {vs : List V} (h : OesR K G ρ xs vs) : OesR K G' ρ' xs vs :=
  paired_up h fun _ _ q => oe_up e r q
theorem od_up (e : Same G G') (r : ∃ t, ρ' = ρ ++ t) {o : Option HO} {x : OD} (h : OdR K G ρ o x) : OdR K G' ρ' o x := by
  cases x with
  | gone => trivial
  | lst xs =>
    obtain ⟨vs, h1, h2⟩ := h
    exact ⟨vs, h1, oes_up e r h2⟩
  | dK kvs =>
    obtain ⟨ws, h1, h2⟩ := h
    exact ⟨ws, h1, paired_up h2 fun _ _ q => ⟨q.1, oe_up e r q.2⟩⟩
/-- frozen items are a list's data, and back -/
theorem dps_of : ∀ {ds : List PyData} {vs : List V}, OesR K G ρ (ds.map .z) vs → DpAll K G vs ds
  | [], _, .nil => .nil
  | _ :: _, _, .cons r t => .cons r (dps_of t)
theorem of_dps : ∀ {ds : List PyData} {vs : List V}, DpAll K G vs ds → OesR K G ρ (ds.map .z) vs
  | [], _, .nil => .nil
  | _ :: _, _, .cons r t => .cons r (of_dps t)
theorem paired_get {α β : Type} {F : α → β → Prop} : ∀ {xs : List α} {ys : List β} {i : Nat} {y : β}, Paired F xs ys → ys[i]? = some y → ∃ x, xs[i]? = some x ∧ F x y
  | _, _, _, _, .nil, e => by simp at e
  | _, _, 0, _, .cons r _, e => by simp at e; subst e; exact ⟨_, rfl, r⟩
  | _, _, i + 1, x, .cons _ t, e => by
    obtain ⟨u, h1, h2⟩ := paired_get (i := i) t (by simpa using e)
    exact ⟨u, by simpa using h1, h2⟩
theorem paired_get' {α β : Type} {F : α → β → Prop} : ∀ {xs : List α} {ys : List β} {i : Nat} {x : α}, Paired F xs ys → xs[i]? = some x → ∃ y, ys[i]? = some y ∧ F x y
  | _, _, _, _, .nil, e => by simp at e
  | _, _, 0, _, .cons r _, e => by simp at e; subst e; exact ⟨_, rfl, r⟩
  | _, _, i + 1, x, .cons _ t, e => by
    obtain ⟨u, h1, h2⟩ := paired_get' (i := i) t (by simpa using e)
    exact ⟨u, by simpa using h1, h2⟩
theorem paired_append {α β : Type} {F : α → β → Prop} : ∀ {xs xs' : List α} {ys ys' : List β}, Paired F xs ys → Paired F xs' ys' → Paired F (xs ++ xs') (ys ++ ys')
  | _, _, _, _, .nil, h => h
  | _, _, _, _, .cons r t, h => .cons r (paired_append t h)
theorem paired_len {α β : Type} {F : α → β → Prop} {xs : List α} {ys : List β} (h : Paired F xs ys) : xs.length = ys.length := Paired.length h

/-! ### states -/
variable {B : Bs} {σ : St} {s : Gh} {E : En}
theorem Sat.fresh (S : Sat K B σ s ρ E) {p : Addr} (h : s.H p = none) : s.G p = none ∧ p ∉ ρ := by
  refine ⟨?_, fun hp => ?_⟩
  · cases e : s.G p with
    | none => rfl
    | some o => rw [s.sub p o e] at h; cases h
  · obtain ⟨i, hi⟩ := List.getElem?_of_mem hp
    exact S.own.ex i p hi h
/-- new frozen object -/
def Gh.newZ (s : Gh) (p : Addr) (o : HO) : Gh := ⟨upd s.G p o, upd s.H p o, fun a u e => by
  by_cases h : a = p
  · subst h; rw [upd_same] at e ⊢; exact e
  · rw [upd_ne h] at e ⊢; exact s.sub a u e⟩
/-- new owned object; an owned object changes -/
def Gh.newO (s : Gh) (p : Addr) (o : HO) (h : s.G p = none) : Gh := ⟨s.G, upd s.H p o, fun a u e => by
  rw [upd_ne (ne_of_none e h)]; exact s.sub a u e⟩
/-- an owned object is frozen -/
def Gh.ice (s : Gh) (p : Addr) (o : HO) (h : s.H p = some o) : Gh := ⟨upd s.G p o, s.H, fun a u e => by
  by_cases q : a = p
  · subst q; rw [upd_same] at e; rw [h]; exact e
  · rw [upd_ne q] at e; exact s.sub a u e⟩
theorem stepZ (s : Gh) (ρ : List Addr) {p : Addr} (o : HO) (h : s.G p = none) : Step s ρ (s.newZ p o) ρ := ⟨kept_new h, [], by simp⟩
theorem Sat.newZ (S : Sat K B σ s ρ E) {p : Addr} (h : s.H p = none) (o : HO) : Sat K B σ (s.newZ p o) ρ E := by
  obtain ⟨hg, hr⟩ := S.fresh h
  have up : Same s.G (s.newZ p o).G := kept_new hg
  refine ⟨⟨S.own.len, S.own.nd, fun i a e => ?_, fun i a x e1 e2 e3 => ?_⟩, ⟨S.fr.io, fun a u n e => ?_, fun a e => ?_, kept_trans S.fr.g up, fun a e => ?_⟩, S.len, fun i x e => ?_⟩
  · have : a ≠ p := fun q => by subst q; exact hr (List.mem_of_getElem? e)
    show upd s.H p o a ≠ none
    rw [upd_ne this]; exact S.own.ex i a e
  · have : a ≠ p := fun q => by subst q; exact hr (List.mem_of_getElem? e1)
    obtain ⟨r1, r2⟩ := S.own.rep i a x e1 e2 e3
    refine ⟨?_, ?_⟩
    · show upd s.G p o a = none
      rw [upd_ne this]; exact r1
    · show OdR K (upd s.G p o) ρ (upd s.H p o a) x
      rw [upd_ne this]; exact od_up up ⟨[], by simp⟩ r2
  · show upd s.H p o a = some u
    have q := S.fr.h a u n e
    rw [upd_ne (ne_of_none q h)]; exact q
  · show upd s.H p o a ≠ none
    by_cases q : a = p
    · subst q; rw [upd_same]; exact fun z => nomatch z
    · rw [upd_ne q]; exact S.fr.p a e
  · show upd s.G p o a = B.G a
    have q : a ≠ p := fun q => by subst q; exact S.fr.p a e h
    rw [upd_ne q]; exact S.fr.n a e
  · obtain ⟨v, h1, h2⟩ := S.sl i x e
    exact ⟨v, h1, oe_up up ⟨[], by simp⟩ h2⟩
theorem Sat.newO (S : Sat K B σ s ρ E) {p : Addr} (h : s.H p = none) {o : HO} {d : OD} (hd : OdR K s.G (ρ ++ [p]) (some o) d) :
    Sat K B σ (s.newO p o (S.fresh h).1) (ρ ++ [p]) ⟨E.sl, E.ow ++ [d]⟩ := by
  obtain ⟨hg, hr⟩ := S.fresh h
  have rr : ∃ t, ρ ++ [p] = ρ ++ t := ⟨[p], rfl⟩
  refine ⟨⟨by simp [S.own.len], ?_, fun i a e => ?_, fun i a x e1 e2 e3 => ?_⟩, ⟨?_, fun a u n e => ?_, fun a e => ?_, S.fr.g, S.fr.n⟩, S.len, fun i x e => ?_⟩
  · refine List.nodup_append.mpr ⟨S.own.nd, by simp, fun a ha b hb => ?_⟩
    simp at hb; subst hb; exact fun q => hr (q ▸ ha)
  · show upd s.H p o a ≠ none
    by_cases q : a = p
    · subst q; rw [upd_same]; exact fun z => nomatch z
    · rw [upd_ne q]
      rw [List.getElem?_append] at e
      split at e
      · exact S.own.ex i a e
      · rename_i hi
        cases hj : i - ρ.length with
        | zero => rw [hj] at e; simp at e; exact absurd e.symm q
        | succ j => rw [hj] at e; simp at e
  · show s.G a = none ∧ OdR K s.G (ρ ++ [p]) (upd s.H p o a) x
    rw [List.getElem?_append] at e1
    split at e1
    · rename_i hi
      have e2' : E.ow[i]? = some x := by
        have e2' : (E.ow ++ [d])[i]? = some x := e2
        rw [List.getElem?_append_left (by rw [← S.own.len]; exact hi)] at e2'; exact e2'
      obtain ⟨r1, r2⟩ := S.own.rep i a x e1 e2' e3
      have : a ≠ p := fun q => by subst q; exact hr (List.mem_of_getElem? e1)
      rw [upd_ne this]
      exact ⟨r1, od_up (fun _ _ z => z) rr r2⟩
    · rename_i hi
      have hi' : ρ.length ≤ i := Nat.le_of_not_lt hi
      cases hj : i - ρ.length with
      | zero =>
        rw [hj] at e1; simp at e1
        subst e1
        have e2' : (E.ow ++ [d])[i]? = some x := e2
        have : i = E.ow.length := by rw [← S.own.len]; omega
        subst this
        simp at e2'
        subst e2'
        rw [upd_same]
        exact ⟨hg, hd⟩
      | succ j => rw [hj] at e1; simp at e1
  · obtain ⟨t, e1, e2⟩ := S.fr.io
    refine ⟨t ++ [p], by rw [e1, List.append_assoc], fun a ha => ?_⟩
    rcases List.mem_append.mp ha with q | q
    · exact e2 a q
    · simp at q; subst q
      cases e : B.H a with
      | none => rfl
      | some o => exact absurd h (S.fr.p a (by rw [e]; exact fun z => nomatch z))
  · show upd s.H p o a = some u
    have q := S.fr.h a u n e
    rw [upd_ne (ne_of_none q h)]; exact q
  · show upd s.H p o a ≠ none
    by_cases q : a = p
    · subst q; rw [upd_same]; exact fun z => nomatch z
    · rw [upd_ne q]; exact S.fr.p a e
  · obtain ⟨v, h1, h2⟩ := S.sl i x e
    exact ⟨v, h1, oe_up (fun _ _ z => z) rr h2⟩
/-- an owned object changes -/
theorem Sat.put (S : Sat K B σ s ρ E) {i : Nat} {p : Addr} {o : HO} {d d' : OD} (hp : ρ[i]? = some p) (hd : E.ow[i]? = some d) (hn : d ≠ .gone) (hd' : OdR K s.G ρ (some o) d') :
    Sat K B σ (s.newO p o (S.own.rep i p d hp hd hn).1) ρ ⟨E.sl, E.ow.set i d'⟩ := by
  refine ⟨⟨by simp [S.own.len], S.own.nd, fun j a e => ?_, fun j a x e1 e2 e3 => ?_⟩, ⟨S.fr.io, fun a u n e => ?_, fun a e => ?_, S.fr.g, S.fr.n⟩, S.len, S.sl⟩
  · show upd s.H p o a ≠ none
    by_cases q : a = p
    · subst q; rw [upd_same]; exact fun z => nomatch z
    · rw [upd_ne q]; exact S.own.ex j a e
  · show s.G a = none ∧ OdR K s.G ρ (upd s.H p o a) x
    have e2' : (E.ow.set i d')[j]? = some x := e2
    by_cases hj : j = i
    · subst hj
      rw [hp] at e1; cases e1
      have hl : j < E.ow.length := by rw [← S.own.len]; exact (List.getElem?_eq_some_iff.mp hp).1
      rw [List.getElem?_set_self hl] at e2'
      cases e2'
      rw [upd_same]
      exact ⟨(S.own.rep j p d hp hd hn).1, hd'⟩
    · rw [List.getElem?_set_ne (Ne.symm hj)] at e2'
      obtain ⟨r1, r2⟩ := S.own.rep j a x e1 e2' e3
      have : a ≠ p := fun q => by
        subst q
        obtain ⟨h1, h1'⟩ := List.getElem?_eq_some_iff.mp hp
        obtain ⟨h2, h2'⟩ := List.getElem?_eq_some_iff.mp e1
        exact hj ((List.getElem_inj S.own.nd).mp (by rw [h1', h2'])).symm
      rw [upd_ne this]
      exact ⟨r1, r2⟩
  · show upd s.H p o a = some u
    have q := S.fr.h a u n e
    have : a ≠ p := fun z => by
      subst z
      obtain ⟨t, e1, e2⟩ := S.fr.io
      have hm := List.mem_of_getElem? hp
      rw [e1] at hm
      rcases List.mem_append.mp hm with z | z
      · exact n z
      · rw [e2 a z] at e; cases e
    rw [upd_ne this]; exact q
  · show upd s.H p o a ≠ none
    by_cases q : a = p
    · subst q; rw [upd_same]; exact fun z => nomatch z
    · rw [upd_ne q]; exact S.fr.p a e
end
end Y

/-! Y2: what an expression gives, over data -/
namespace Y
open PySem L2
section
variable (K : PySem.W.Frag) (B : Bs)
/-- te, from E, gives x and leaves E' -/
def Ev (te : TE) (E : En) (x : OE) (E' : En) : Prop := ∀ σ s ρ, Sat K B σ s ρ E → ∀ Q : VK,
  (∀ v s' ρ', Step s ρ s' ρ' → Sat K B σ s' ρ' E' → OeR K s'.G ρ' x v → Q v s'.H) → te σ s.H Q
def EvA (ta : TA) (E : En) (xs : List OE) (E' : En) : Prop := ∀ σ s ρ, Sat K B σ s ρ E → ∀ Q : List V → Hp → Prop,
  (∀ vs s' ρ', Step s ρ s' ρ' → Sat K B σ s' ρ' E' → OesR K s'.G ρ' xs vs → Q vs s'.H) → ta σ s.H Q
def EvT (tt : TT) (E : En) (b : Bool) (E' : En) : Prop := ∀ σ s ρ, Sat K B σ s ρ E → ∀ Q : Bool → Hp → Prop,
  (∀ s' ρ', Step s ρ s' ρ' → Sat K B σ s' ρ' E' → Q b s'.H) → tt σ s.H Q
/-- a new list of these is being made -/
def EvN (te : TE) (E : En) (xs : List OE) (E' : En) : Prop := ∀ σ s ρ, Sat K B σ s ρ E → ∀ Q : VK,
  (∀ vs s' ρ', Step s ρ s' ρ' → Sat K B σ s' ρ' E' → OesR K s'.G ρ' xs vs → ∀ p, s'.H p = none → Q (.ref p) (upd s'.H p (.lst vs))) → te σ s.H Q
end
/-- x can be read as the data d, as a list of xs, as a tuple of xs -/
inductive RdO (E : En) : OE → PyData → Prop
  | z {d} : RdO E (.z d) d
  | r {i ds} (h : E.ow[i]? = some (.lst (ds.map .z))) : RdO E (.r i) (.list ds)
inductive SqO (E : En) : OE → List OE → Prop
  | z {ds} : SqO E (.z (.list ds)) (ds.map .z)
  | r {i xs} (h : E.ow[i]? = some (.lst xs)) : SqO E (.r i) xs
/-- a value that is this data wherever it stands -/
def Ever (K : PySem.W.Frag) (v : V) (d : PyData) : Prop := ∀ G, Dp K G v d
section
variable {K : PySem.W.Frag} {B : Bs} {E E1 E2 E3 : En} {ta tb tc te : TE} {t u : TT} {x y z : OE} {d d1 d2 : PyData} {r r' : R2} {xs ys : List OE} {ar : TA} {b c : Bool}
theorem ever_int (i : Int) : Ever K (.int i) (.int i) := fun _ => .int i
theorem ever_str (i : Str) : Ever K (.str i) (.str i) := fun _ => .str i
theorem ever_bl (i : Bool) : Ever K (.bl i) (.bool i) := fun _ => .bl i
theorem ever_non : Ever K .non .none := fun _ => .non
theorem oe_ever {v : V} {G : Hp} {ρ : List Addr} (h : Ever K v d) : OeR K G ρ (.z d) v := h G
theorem dp_int {G : Hp} {v : V} {i : Int} (h : Dp K G v (.int i)) : v = .int i := by cases h; rfl
theorem dp_str {G : Hp} {v : V} {i : Str} (h : Dp K G v (.str i)) : v = .str i := by cases h; rfl
theorem dp_bl {G : Hp} {v : V} {i : Bool} (h : Dp K G v (.bool i)) : v = .bl i := by cases h; rfl
theorem dp_non {G : Hp} {v : V} (h : Dp K G v .none) : v = .non := by cases h; rfl
theorem rd_dp {σ : St} {s : Gh} {ρ : List Addr} {v : V} (S : Sat K B σ s ρ E) (h : RdO E x d) (hv : OeR K s.G ρ x v) : Dp K s.H v d := by
  cases h with
  | z => exact dp_up s.sub _ _ hv
  | r h =>
    obtain ⟨a, h1, rfl⟩ := hv
    obtain ⟨_, vs, h3, h4⟩ := S.own.rep _ a _ h1 h (fun q => nomatch q)
    exact .lst (SqL.of h3) (dps_up s.sub _ _ (dps_of h4))
theorem sq_dp {σ : St} {s : Gh} {ρ : List Addr} {v : V} (S : Sat K B σ s ρ E) (h : SqO E x xs) (hv : OeR K s.G ρ x v) : ∃ a vs, v = .ref a ∧ SqL K s.H a vs ∧ OesR K s.G ρ xs vs := by
  cases h with
  | z =>
    have hv' : Dp K s.G v _ := hv
    cases hv' with
    | lst hs ha => exact ⟨_, _, rfl, kept_l s.sub hs, of_dps ha⟩
  | r h =>
    obtain ⟨a, h1, rfl⟩ := hv
    obtain ⟨_, vs, h3, h4⟩ := S.own.rep _ a _ h1 h (fun q => nomatch q)
    exact ⟨a, vs, rfl, SqL.of h3, h4⟩
theorem tq_dp {s : Gh} {ρ : List Addr} {v : V} {ds : List PyData} (hv : OeR K s.G ρ (.z (.tuple ds)) v) : ∃ a vs, v = .ref a ∧ SqT K s.H a vs ∧ OesR K s.G ρ (ds.map .z) vs := by
  have hv' : Dp K s.G v _ := hv
  cases hv' with
  | tup hs ha => exact ⟨_, _, rfl, kept_t s.sub hs, of_dps ha⟩

/-! ### names, constants -/
theorem ev_var {i : Nat} (h : E.sl[i]? = some (some x)) : Ev K B (tVar i) E x E := fun σ s ρ S Q q => by
  obtain ⟨v, h1, h2⟩ := S.sl i x h
  exact ⟨v, h1, q v s ρ (.refl _ _) S h2⟩
theorem ev_c {v : V} (h : Ever K v d) : Ev K B (tC v) E (.z d) E := fun σ s ρ S Q q => q v s ρ (.refl _ _) S (h s.G)
theorem ev_int {i : Int} : Ev K B (tC (.int i)) E (.z (.int i)) E := ev_c (ever_int i)
theorem ev_str {i : Str} : Ev K B (tC (.str i)) E (.z (.str i)) E := ev_c (ever_str i)
theorem ev_bl {i : Bool} : Ev K B (tC (.bl i)) E (.z (.bool i)) E := ev_c (ever_bl i)
theorem ev_non : Ev K B (tC .non) E (.z .none) E := ev_c ever_non
theorem ev_is {z' : OE} {E' : En} (h : Ev K B te E z E1) (e : z = z') (e' : E1 = E') : Ev K B te E z' E' := by subst e; subst e'; exact h
/-! ### argument lists, displays -/
theorem ea_nil : EvA K B tNil E [] E := fun σ s ρ S Q q => q [] s ρ (.refl _ _) S .nil
theorem ea_cons (h : Ev K B ta E x E1) (hr : EvA K B ar E1 xs E2) : EvA K B (tCons ta ar) E (x :: xs) E2 := fun σ s ρ S Q q =>
  h σ s ρ S _ fun v s1 ρ1 T1 S1 o1 => hr σ s1 ρ1 S1 _ fun vs s2 ρ2 T2 S2 o2 => q (v :: vs) s2 ρ2 (T1.trans T2) S2 (.cons (oe_up T2.g T2.r o1) o2)
theorem ev_tup {ds : List PyData} (h : EvA K B ar E (ds.map .z) E1) (hl : ds.length ≤ 100000) : Ev K B (tTup ar) E (.z (.tuple ds)) E1 := fun σ s ρ S Q q =>
  h σ s ρ S _ fun vs s1 ρ1 T1 S1 o1 => ⟨by rw [← paired_len o1, List.length_map]; exact Nat.le_trans hl (by decide), fun p hp => by
    have hg := (S1.fresh hp).1
    refine q (.ref p) (s1.newZ p (.tup vs)) ρ1 (T1.trans (stepZ _ _ _ hg)) (S1.newZ hp _) ?_
    exact .tup (SqT.of (show upd s1.G p _ p = _ from upd_same)) (dps_up (kept_new hg) _ _ (dps_of o1))⟩
theorem en_lst (h : EvA K B ar E xs E1) (hl : xs.length ≤ 100000) : EvN K B (tLst ar) E xs E1 := fun σ s ρ S Q q =>
  h σ s ρ S _ fun vs s1 ρ1 T1 S1 o1 => ⟨by rw [← paired_len o1]; exact Nat.le_trans hl (by decide), fun p hp => q vs s1 ρ1 T1 S1 o1 p hp⟩
/-- the new list is frozen | owned -/
theorem ev_Z {ds : List PyData} (h : EvN K B te E (ds.map .z) E1) : Ev K B te E (.z (.list ds)) E1 := fun σ s ρ S Q q =>
  h σ s ρ S _ fun vs s1 ρ1 T1 S1 o1 p hp => by
    have hg := (S1.fresh hp).1
    refine q (.ref p) (s1.newZ p (.lst vs)) ρ1 (T1.trans (stepZ _ _ _ hg)) (S1.newZ hp _) ?_
    exact .lst (SqL.of (show upd s1.G p _ p = _ from upd_same)) (dps_up (kept_new hg) _ _ (dps_of o1))
theorem ev_O (h : EvN K B te E xs E1) : Ev K B te E (.r E1.ow.length) ⟨E1.sl, E1.ow ++ [.lst xs]⟩ := fun σ s ρ S Q q =>
  h σ s ρ S _ fun vs s1 ρ1 T1 S1 o1 p hp => by
    have hg := (S1.fresh hp).1
    have rr : ∃ t, ρ1 ++ [p] = ρ1 ++ t := ⟨[p], rfl⟩
    refine q (.ref p) (s1.newO p (.lst vs) hg) (ρ1 ++ [p]) (T1.trans ⟨fun _ _ z => z, rr⟩) (S1.newO hp (d := .lst xs) ⟨vs, rfl, oes_up (fun _ _ z => z) rr o1⟩) ⟨p, ?_, rfl⟩
    rw [← S1.own.len]; simp

/-! ### operators -/
def Sc2 (K : PySem.W.Frag) (r : R2) (d1 d2 d : PyData) : Prop := ∀ H x y, Dp K H x d1 → Dp K H y d2 → ∀ Q : VK, (∀ v, Ever K v d → Q v H) → r x y H Q
theorem ev_op (ha : Ev K B ta E x E1) (hb : Ev K B tb E1 y E2) (h1 : RdO E2 x d1) (h2 : RdO E2 y d2) (hr : Sc2 K r d1 d2 d) : Ev K B (tOp r ta tb) E (.z d) E2 := fun σ s ρ S Q q =>
  ha σ s ρ S _ fun v s1 ρ1 T1 S1 o1 => hb σ s1 ρ1 S1 _ fun w s2 ρ2 T2 S2 o2 =>
    hr s2.H v w (rd_dp S2 h1 (oe_up T2.g T2.r o1)) (rd_dp S2 h2 o2) Q fun v' e => q v' s2 ρ2 (T1.trans T2) S2 (e s2.G)
theorem ev_un {r : V → Hp → VK → Prop} (ha : Ev K B ta E x E1) (h1 : RdO E1 x d1) (hr : ∀ H x, Dp K H x d1 → ∀ Q : VK, (∀ v, Ever K v d → Q v H) → r x H Q) : Ev K B (tUn r ta) E (.z d) E1 := fun σ s ρ S Q q =>
  ha σ s ρ S _ fun v s1 ρ1 T1 S1 o1 => hr s1.H v (rd_dp S1 h1 o1) Q fun v' e => q v' s1 ρ1 T1 S1 (e s1.G)
def rOr (r r' : R2) : R2 := fun x y H Q => r x y H Q ∨ r' x y H Q
theorem opr_or {X : Cx} {f : Value → Value → Sem Value} {r r' : R2} (h : OpR X f r) (h' : OpR X f r') : OpR X f (rOr r r') := fun pins s σ H x y v u Q I r1 r2 z => z.elim (h pins s σ H x y v u Q I r1 r2) (h' pins s σ H x y v u Q I r1 r2)
theorem Sc2.fst (h : Sc2 K r d1 d2 d) : Sc2 K (rOr r r') d1 d2 d := fun H x y a b Q q => .inl (h H x y a b Q q)
theorem Sc2.snd (h : Sc2 K r' d1 d2 d) : Sc2 K (rOr r r') d1 d2 d := fun H x y a b Q q => .inr (h H x y a b Q q)
theorem sc_I0 {g : Int → Int → V} {i j : Int} (h : Ever K (g i j) d) : Sc2 K (rI0 g) (.int i) (.int j) d := fun H x y a b Q q => ⟨i, j, dp_int a, dp_int b, q _ h⟩
theorem sc_I {C : Int → Int → Prop} {g : Int → Int → V} {i j : Int} (c : C i j) (h : Ever K (g i j) d) : Sc2 K (rI C g) (.int i) (.int j) d := fun H x y a b Q q => ⟨i, j, dp_int a, dp_int b, c, q _ h⟩
theorem sc_eqD (h1 : SeqAt.shaped d1 = true) (h2 : SeqAt.shaped d2 = true) : Sc2 K (rEqD K) d1 d2 (.bool (PyData.eqv d1 d2)) := fun H x y a b Q q => ⟨d1, d2, a, b, h1, h2, q _ (ever_bl _)⟩
theorem sc_neD (h1 : SeqAt.shaped d1 = true) (h2 : SeqAt.shaped d2 = true) : Sc2 K (rNeD K) d1 d2 (.bool (!PyData.eqv d1 d2)) := fun H x y a b Q q => ⟨d1, d2, a, b, h1, h2, q _ (ever_bl _)⟩

/-! ### a test, and, or, not; choices -/
theorem et_test (h : Ev K B te E (.z (.bool b)) E1) : EvT K B (tTest te) E b E1 := fun σ s ρ S Q q => h σ s ρ S _ fun v s1 ρ1 T1 S1 o1 => ⟨b, dp_bl o1, q s1 ρ1 T1 S1⟩
theorem et_B (h : Ev K B te E (.z (.bool b)) E1) : EvT K B (tB te) E b E1 := fun σ s ρ S Q q => h σ s ρ S _ fun v s1 ρ1 T1 S1 o1 => ⟨b, dp_bl o1, q s1 ρ1 T1 S1⟩
theorem et_not (h : EvT K B t E b E1) : EvT K B (tNot t) E (!b) E1 := fun σ s ρ S Q q => h σ s ρ S _ fun s1 ρ1 T1 S1 => q s1 ρ1 T1 S1
theorem et_and (h : EvT K B t E b E1) (h2 : b = true → EvT K B u E1 c E2) (h3 : b = false → E1 = E2) : EvT K B (tAnd t u) E (b && c) E2 := fun σ s ρ S Q q => h σ s ρ S _ fun s1 ρ1 T1 S1 => by
  cases b with
  | true => exact iteT (h2 rfl σ s1 ρ1 S1 _ fun s2 ρ2 T2 S2 => q s2 ρ2 (T1.trans T2) S2)
  | false => exact iteF (q s1 ρ1 T1 (h3 rfl ▸ S1))
theorem et_or (h : EvT K B t E b E1) (h2 : b = false → EvT K B u E1 c E2) (h3 : b = true → E1 = E2) : EvT K B (tOr t u) E (b || c) E2 := fun σ s ρ S Q q => h σ s ρ S _ fun s1 ρ1 T1 S1 => by
  cases b with
  | true => exact iteT (q s1 ρ1 T1 (h3 rfl ▸ S1))
  | false => exact iteF (h2 rfl σ s1 ρ1 S1 _ fun s2 ρ2 T2 S2 => q s2 ρ2 (T1.trans T2) S2)
theorem et_is {b' : Bool} {E' : En} (h : EvT K B t E b E1) (e : b = b') (e' : E1 = E') : EvT K B t E b' E' := by subst e; subst e'; exact h
theorem ev_andV (h : Ev K B ta E (.z (.bool b)) E1) (h2 : b = true → Ev K B tb E1 (.z (.bool c)) E2) (h3 : b = false → E1 = E2) : Ev K B (tAndV ta tb) E (.z (.bool (b && c))) E2 := fun σ s ρ S Q q => h σ s ρ S _ fun v s1 ρ1 T1 S1 o1 => ⟨b, dp_bl o1, by
  cases b with
  | true => exact iteT (h2 rfl σ s1 ρ1 S1 _ fun w s2 ρ2 T2 S2 o2 => q w s2 ρ2 (T1.trans T2) S2 o2)
  | false => exact iteF (q _ s1 ρ1 T1 (h3 rfl ▸ S1) (ever_bl false _))⟩
theorem ev_orV (h : Ev K B ta E (.z (.bool b)) E1) (h2 : b = false → Ev K B tb E1 (.z (.bool c)) E2) (h3 : b = true → E1 = E2) : Ev K B (tOrV ta tb) E (.z (.bool (b || c))) E2 := fun σ s ρ S Q q => h σ s ρ S _ fun v s1 ρ1 T1 S1 o1 => ⟨b, dp_bl o1, by
  cases b with
  | true => exact iteT (q _ s1 ρ1 T1 (h3 rfl ▸ S1) (ever_bl true _))
  | false => exact iteF (h2 rfl σ s1 ρ1 S1 _ fun w s2 ρ2 T2 S2 o2 => q w s2 ρ2 (T1.trans T2) S2 o2)⟩
theorem ev_notV (h : Ev K B ta E (.z (.bool b)) E1) : Ev K B (tNotV ta) E (.z (.bool (!b))) E1 := fun σ s ρ S Q q => h σ s ρ S _ fun v s1 ρ1 T1 S1 o1 => ⟨b, dp_bl o1, q _ s1 ρ1 T1 S1 (ever_bl _ _)⟩
theorem ev_if {x' : OE} (h : EvT K B t E b E1) (h1 : b = true → Ev K B ta E1 x E2) (h2 : b = false → Ev K B tb E1 x E2) : Ev K B (tIf t ta tb) E x E2 := fun σ s ρ S Q q => h σ s ρ S _ fun s1 ρ1 T1 S1 => by
  cases b with
  | true => exact iteT (h1 rfl σ s1 ρ1 S1 _ fun w s2 ρ2 T2 S2 o2 => q w s2 ρ2 (T1.trans T2) S2 o2)
  | false => exact iteF (h2 rfl σ s1 ρ1 S1 _ fun w s2 ρ2 T2 S2 o2 => q w s2 ρ2 (T1.trans T2) S2 o2)
theorem ev_chain {x y z : OE} {d3 : PyData} (ha : Ev K B ta E x E1) (hb : Ev K B tb E1 y E2) (h1 : RdO E2 x d1) (h2 : RdO E2 y d2) (hr : Sc2 K r d1 d2 (.bool b)) (hc : b = true → Ev K B tc E2 z E3) (h3 : b = true → RdO E3 y d2) (h4 : b = true → RdO E3 z d3)
    (hr' : b = true → Sc2 K r' d2 d3 (.bool c)) (h5 : b = false → E2 = E3) : Ev K B (tChain r r' ta tb tc) E (.z (.bool (b && c))) E3 := fun σ s ρ S Q q =>
  ha σ s ρ S _ fun v s1 ρ1 T1 S1 o1 => hb σ s1 ρ1 S1 _ fun w s2 ρ2 T2 S2 o2 =>
    hr s2.H v w (rd_dp S2 h1 (oe_up T2.g T2.r o1)) (rd_dp S2 h2 o2) _ fun v' e => ⟨b, dp_bl (e s2.G), by
      cases b with
      | true => exact iteT (hc rfl σ s2 ρ2 S2 _ fun w' s3 ρ3 T3 S3 o3 => hr' rfl s3.H w w' (rd_dp S3 (h3 rfl) (oe_up T3.g T3.r o2)) (rd_dp S3 (h4 rfl) o3) _ fun v'' e' => q v'' s3 ρ3 ((T1.trans T2).trans T3) S3 (e' s3.G))
      | false => exact iteF (q _ s2 ρ2 (T1.trans T2) (h5 rfl ▸ S2) (ever_bl false _))⟩

/-! ### calls of built-ins that give a value and leave all as it is -/
/-- the arguments read as data -/
inductive RdA (E : En) : List OE → List PyData → Prop
  | nil : RdA E [] []
  | cons {x d xs ds} : RdO E x d → RdA E xs ds → RdA E (x :: xs) (d :: ds)
theorem rda_dp {σ : St} {s : Gh} {ρ : List Addr} (S : Sat K B σ s ρ E) : ∀ {xs : List OE} {ds : List PyData} {vs : List V}, RdA E xs ds → OesR K s.G ρ xs vs → DpAll K s.H vs ds
  | _, _, _, .nil, .nil => .nil
  | _, _, _, .cons h t, .cons o p => .cons (rd_dp S h o) (rda_dp S t p)
def ScC (K : PySem.W.Frag) (r : List V → Hp → VK → Prop) (ds : List PyData) (d : PyData) : Prop := ∀ H vs, DpAll K H vs ds → ∀ Q : VK, (∀ v, Ever K v d → Q v H) → r vs H Q
theorem ev_cb {rc : List V → Hp → VK → Prop} {ds : List PyData} (ha : EvA K B ar E xs E1) (h1 : RdA E1 xs ds) (hr : ScC K rc ds d) : Ev K B (tCB rc ar) E (.z d) E1 := fun σ s ρ S Q q =>
  ha σ s ρ S _ fun vs s1 ρ1 T1 S1 o1 => hr s1.H vs (rda_dp S1 h1 o1) Q fun v' e => q v' s1 ρ1 T1 S1 (e s1.G)
def rcOr (r r' : List V → Hp → VK → Prop) : List V → Hp → VK → Prop := fun xs H Q => r xs H Q ∨ r' xs H Q
theorem callr_or {X : Cx} {f : Value} {r r' : List V → Hp → VK → Prop} (h : CallR X f r) (h' : CallR X f r') : CallR X f (rcOr r r') := fun pins s σ H xs us Q I r1 z => z.elim (h pins s σ H xs us Q I r1) (h' pins s σ H xs us Q I r1)
theorem ScC.fst {r r' : List V → Hp → VK → Prop} {ds : List PyData} (h : ScC K r ds d) : ScC K (rcOr r r') ds d := fun H xs a Q q => .inl (h H xs a Q q)
theorem ScC.snd {r r' : List V → Hp → VK → Prop} {ds : List PyData} (h : ScC K r' ds d) : ScC K (rcOr r r') ds d := fun H xs a Q q => .inr (h H xs a Q q)
theorem dps1 {H : Hp} {vs : List V} (h : DpAll K H vs [d]) : ∃ v, vs = [v] ∧ Dp K H v d := by
  cases h with
  | cons a t => cases t; exact ⟨_, rfl, a⟩
theorem dps2 {H : Hp} {vs : List V} (h : DpAll K H vs [d1, d2]) : ∃ v w, vs = [v, w] ∧ Dp K H v d1 ∧ Dp K H w d2 := by
  cases h with
  | cons a t =>
    obtain ⟨w, rfl, h2⟩ := dps1 t
    exact ⟨_, w, rfl, a, h2⟩

/-! ### items -/
/-- an item of a list, a tuple -/
theorem ev_ixL {i : Int} {e : OE} (ha : Ev K B ta E x E1) (hb : Ev K B tb E1 (.z (.int i)) E2) (h1 : SqO E2 x xs) (h2 : atI xs i = some e) : Ev K B (tOp (rIx K) ta tb) E e E2 := fun σ s ρ S Q q =>
  ha σ s ρ S _ fun v s1 ρ1 T1 S1 o1 => hb σ s1 ρ1 S1 _ fun w s2 ρ2 T2 S2 o2 => by
    obtain ⟨a, vs, rfl, hs, hp⟩ := sq_dp S2 h1 (oe_up T2.g T2.r o1)
    obtain ⟨j, e1, e2, e3, e4, e5⟩ := atI_get h2
    obtain ⟨v', g1, g2⟩ := paired_get' hp e2
    refine Or.inl ⟨a, vs, i, v', rfl, dp_int o2, hs, ?_, q v' s2 ρ2 (T1.trans T2) S2 g2⟩
    unfold atI at h2 ⊢
    rw [← paired_len hp]
    cases en : ixN xs.length i with
    | none => rw [en] at h2; cases h2
    | some k =>
      have e6 := (ixN_seq en).1
      rw [e1] at e6; cases e6
      exact g1
theorem ev_ixT {i : Int} {e : PyData} {ds : List PyData} (ha : Ev K B ta E (.z (.tuple ds)) E1) (hb : Ev K B tb E1 (.z (.int i)) E2) (h2 : atI ds i = some e) : Ev K B (tOp (rIx K) ta tb) E (.z e) E2 := fun σ s ρ S Q q =>
  ha σ s ρ S _ fun v s1 ρ1 T1 S1 o1 => hb σ s1 ρ1 S1 _ fun w s2 ρ2 T2 S2 o2 => by
    obtain ⟨a, vs, rfl, hs, hp⟩ := tq_dp (oe_up T2.g T2.r o1)
    obtain ⟨j, e1, e2, e3, e4, e5⟩ := atI_get h2
    obtain ⟨v', g1, g2⟩ := paired_get' hp (x := .z e) (i := j) (by rw [List.getElem?_map, e2]; rfl)
    refine Or.inr (Or.inl ⟨a, vs, i, v', rfl, dp_int o2, hs, ?_, q v' s2 ρ2 (T1.trans T2) S2 g2⟩)
    have hl := paired_len hp
    rw [List.length_map] at hl
    unfold atI at h2 ⊢
    rw [← hl]
    cases en : ixN ds.length i with
    | none => rw [en] at h2; cases h2
    | some k =>
      have e6 := (ixN_seq en).1
      rw [e1] at e6; cases e6
      exact g1
theorem ev_ixS {i : Int} {w : Str} {c : Nat} (ha : Ev K B ta E (.z (.str w)) E1) (hb : Ev K B tb E1 (.z (.int i)) E2) (hl : w.length ≤ 100000) (h2 : atI w.cps.toList i = some c) : Ev K B (tOp (rIx K) ta tb) E (.z (.str ⟨#[c]⟩)) E2 := fun σ s ρ S Q q =>
  ha σ s ρ S _ fun v s1 ρ1 T1 S1 o1 => hb σ s1 ρ1 S1 _ fun w' s2 ρ2 T2 S2 o2 => by
    have e1 := dp_str o1
    subst e1
    exact Or.inr (Or.inr ⟨w, i, c, rfl, dp_int o2, Nat.le_trans hl (by decide), h2, q _ s2 ρ2 (T1.trans T2) S2 (ever_str _ _)⟩)
end
end Y

/-! Y3: statements over data; calls of defs; what a def promises -/
namespace Y
open PySem L2
structure Dn where
  nx : En → Prop
  rt : OE → En → Prop
  bk : En → Prop := fun _ => False
  ct : En → Prop := fun _ => False
section
variable (K : PySem.W.Frag) (B : Bs)
structure Conn (D : Dn) (D0 : Ends) : Prop where
  nx : ∀ σ s ρ E, Sat K B σ s ρ E → D.nx E → D0.nx σ s.H
  rt : ∀ v σ s ρ E x, Sat K B σ s ρ E → OeR K s.G ρ x v → D.rt x E → D0.rt v s.H
  bk : ∀ σ s ρ E, Sat K B σ s ρ E → D.bk E → D0.bk σ s.H
  ct : ∀ σ s ρ E, Sat K B σ s ρ E → D.ct E → D0.ct σ s.H
def W (ts : TS) (E : En) (D : Dn) : Prop := ∀ σ s ρ (D0 : Ends), Sat K B σ s ρ E → Conn K B D D0 → ts D0 σ s.H
end
section
variable {K : PySem.W.Frag} {B : Bs} {E E1 E2 E' : En} {D : Dn} {ta tb tc te : TE} {t u : TT} {t1 t2 ts : TS} {x y : OE} {d d1 d2 : PyData} {xs : List OE} {ar : TA} {b : Bool} {σ : St} {s : Gh} {ρ : List Addr}
theorem Sat.set (S : Sat K B σ s ρ E) {v : V} (o : OeR K s.G ρ x v) (i : Nat) : Sat K B (σ.set i (some v)) s ρ ⟨E.sl.set i (some x), E.ow⟩ := by
  refine ⟨S.own, S.fr, by simp [S.len], fun j y e => ?_⟩
  have e' : (E.sl.set i (some x))[j]? = some (some y) := e
  by_cases hj : j = i
  · subst hj
    have hl : j < E.sl.length := by
      have := (List.getElem?_eq_some_iff.mp e').1
      simpa using this
    rw [List.getElem?_set_self hl] at e'
    cases e'
    exact ⟨v, List.getElem?_set_self (by rw [S.len]; exact hl), o⟩
  · rw [List.getElem?_set_ne (Ne.symm hj)] at e' ⊢
    exact S.sl j y e'
/-- less is known -/
structure Wk (E E' : En) : Prop where
  sl : E.sl.length = E'.sl.length
  le : ∀ (i : Nat) (x : OE), E'.sl[i]? = some (some x) → E.sl[i]? = some (some x)
  ow : E.ow.length = E'.ow.length
  lo : ∀ (i : Nat) (o : OD), E'.ow[i]? = some o → o ≠ .gone → E.ow[i]? = some o
theorem Sat.wk (S : Sat K B σ s ρ E) (w : Wk E E') : Sat K B σ s ρ E' :=
  ⟨⟨S.own.len.trans w.ow, S.own.nd, S.own.ex, fun i a o e1 e2 e3 => S.own.rep i a o e1 (w.lo i o e2 e3) e3⟩, S.fr, S.len.trans w.sl, fun i x e => S.sl i x (w.le i x e)⟩
theorem w_wk (w : Wk E E') (h : W K B ts E' D) : W K B ts E D := fun σ s ρ D0 S C => h σ s ρ D0 (S.wk w) C

theorem w_next (h : D.nx E) : W K B tNext E D := fun σ s ρ D0 S C => C.nx σ s ρ E S h
theorem w_brk (h : D.bk E) : W K B tBreak E D := fun σ s ρ D0 S C => C.bk σ s ρ E S h
theorem w_cont (h : D.ct E) : W K B tCont E D := fun σ s ρ D0 S C => C.ct σ s ρ E S h
theorem w_seq (h : W K B t1 E { D with nx := fun E1 => W K B t2 E1 D }) : W K B (tSeq t1 t2) E D := fun σ s ρ D0 S C =>
  h σ s ρ { D0 with nx := t2 D0 } S ⟨fun σ' s' ρ' E' S' w => w σ' s' ρ' D0 S' C, C.rt, C.bk, C.ct⟩
theorem w_asg {i : Nat} (h : Ev K B te E x E1) (k : D.nx ⟨E1.sl.set i (some x), E1.ow⟩) : W K B (tAsg te (gName i)) E D := fun σ s ρ D0 S C =>
  h σ s ρ S _ fun v s1 ρ1 T1 S1 o1 => C.nx _ s1 ρ1 _ (S1.set o1 i) k
theorem w_ret (h : Ev K B te E x E1) (k : D.rt x E1) : W K B (tRet te) E D := fun σ s ρ D0 S C =>
  h σ s ρ S _ fun v s1 ρ1 T1 S1 o1 => C.rt v σ s1 ρ1 E1 x S1 o1 k
theorem w_retN (k : D.rt (.z .none) E) : W K B tRetN E D := fun σ s ρ D0 S C => C.rt .non σ s ρ E (.z .none) S (show Dp K s.G .non .none from .non) k
theorem w_drop (h : Ev K B te E x E1) (k : D.nx E1) : W K B (tDrop te) E D := fun σ s ρ D0 S C =>
  h σ s ρ S _ fun v s1 ρ1 T1 S1 o1 => C.nx σ s1 ρ1 E1 S1 k
theorem w_if (h : EvT K B t E b E1) (k1 : b = true → W K B t1 E1 D) (k2 : b = false → W K B t2 E1 D) : W K B (tIfS t t1 t2) E D := fun σ s ρ D0 S C =>
  h σ s ρ S _ fun s1 ρ1 T1 S1 => by
    cases b with
    | true => exact iteT (k1 rfl σ s1 ρ1 D0 S1 C)
    | false => exact iteF (k2 rfl σ s1 ρ1 D0 S1 C)
theorem w_aug {i : Nat} {ip : TIp} (hx : E1.sl[i]? = some (some x)) (hx0 : E.sl[i]? = some (some x)) (h : Ev K B te E y E1) (h1 : RdO E1 x d1) (h2 : RdO E1 y d2) (hr : Sc2 K ip d1 d2 d) (k : D.nx ⟨E1.sl.set i (some (.z d)), E1.ow⟩) : W K B (tAug i te ip) E D := fun σ s ρ D0 S C => by
  obtain ⟨v, e1, e2⟩ := S.sl i x hx0
  refine ⟨v, e1, h σ s ρ S _ fun w s1 ρ1 T1 S1 o1 => ?_⟩
  exact hr s1.H v w (rd_dp S1 h1 (oe_up T1.g T1.r e2)) (rd_dp S1 h2 o1) _ fun v' e => C.nx _ s1 ρ1 _ (S1.set (x := .z d) (e s1.G) i) k
/-- while: an invariant by a measure -/
theorem w_while (P : Nat → En → Prop) (m0 : Nat) (h0 : P m0 E)
    (hs : ∀ m E, P m E → ∃ b E1, EvT K B t E b E1 ∧ (b = true → W K B ts E1 { nx := fun E' => ∃ m', m' < m ∧ P m' E', ct := fun E' => ∃ m', m' < m ∧ P m' E', bk := D.nx, rt := D.rt }) ∧ (b = false → D.nx E1)) : W K B (tWhile t ts) E D := fun σ s ρ D0 S C => by
  refine ⟨fun m σ H => ∃ s ρ E, s.H = H ∧ Sat K B σ s ρ E ∧ P m E, ⟨m0, s, ρ, E, rfl, S, h0⟩, ?_⟩
  rintro m σ H ⟨s, ρ, E, rfl, S, p⟩
  obtain ⟨b, E1, h1, h2, h3⟩ := hs m E p
  refine h1 σ s ρ S _ fun s1 ρ1 T1 S1 => ?_
  cases b with
  | true =>
    refine iteT ⟨fun σ' H' => ∃ m', m' < m ∧ ∃ s ρ E, s.H = H' ∧ Sat K B σ' s ρ E ∧ P m' E, fun σ' H' ⟨m', l, z⟩ => ⟨m', l, z⟩, ?_⟩
    exact h2 rfl σ s1 ρ1 _ S1 ⟨fun σ' s' ρ' E' S' ⟨m', l, p'⟩ => ⟨m', l, s', ρ', E', rfl, S', p'⟩, C.rt, C.nx, fun σ' s' ρ' E' S' ⟨m', l, p'⟩ => ⟨m', l, s', ρ', E', rfl, S', p'⟩⟩
  | false => exact iteF (C.nx σ s1 ρ1 E1 S1 (h3 rfl))

/-! ### for -/
theorem Fr.trans {s' : Gh} {ρ' : List Addr} (f : Fr B s ρ) (f' : Fr ⟨s.G, s.H, ρ⟩ s' ρ') : Fr B s' ρ' := by
  obtain ⟨t, e1, e2⟩ := f.io
  obtain ⟨t', e3, e4⟩ := f'.io
  refine ⟨⟨t ++ t', by rw [e3]; show ρ ++ t' = _; rw [e1, List.append_assoc], fun a ha => ?_⟩, fun a o n e => ?_, fun a e => f'.p a (f.p a e), kept_trans f.g f'.g, fun a e => (f'.n a (f.p a e)).trans (f.n a e)⟩
  · rcases List.mem_append.mp ha with q | q
    · exact e2 a q
    · cases e : B.H a with
      | none => rfl
      | some o => exact absurd (e4 a q) (f.p a (by rw [e]; exact fun z => nomatch z))
  · refine f'.h a o (fun hm => ?_) (f.h a o n e)
    have hm' : a ∈ ρ := hm
    rw [e1] at hm'
    rcases List.mem_append.mp hm' with q | q
    · exact n q
    · rw [e2 a q] at e; cases e
theorem Fr.refl (s : Gh) (ρ : List Addr) : Fr ⟨s.G, s.H, ρ⟩ s ρ := ⟨⟨[], by simp, fun a h => by cases h⟩, fun _ _ _ e => e, fun _ e => e, fun _ _ e => e, fun _ _ => rfl⟩
theorem Sat.rebase (S : Sat K B σ s ρ E) : Sat K ⟨s.G, s.H, ρ⟩ σ s ρ E := ⟨S.own, Fr.refl s ρ, S.len, S.sl⟩
/-- storing y into the target leads from E to E2 -/
def Tg (K : PySem.W.Frag) (B : Bs) (g : TG) (y : OE) (E E2 : En) : Prop := ∀ σ s ρ v, Sat K B σ s ρ E → OeR K s.G ρ y v → ∀ Q : St → Hp → Prop,
  (∀ σ' s' ρ', Sat K B σ' s' ρ' E2 → Q σ' s'.H) → g v σ s.H Q
theorem tg_name {i : Nat} : Tg K B (gName i) x E ⟨E.sl.set i (some x), E.ow⟩ := fun σ s ρ v S o Q q => q _ s ρ (S.set o i)
theorem w_asgT {g : TG} (h : Ev K B te E x E1) (ht : Tg K B g x E1 E2) (k : D.nx E2) : W K B (tAsg te g) E D := fun σ s ρ D0 S C =>
  h σ s ρ S _ fun v s1 ρ1 T1 S1 o1 => ht σ s1 ρ1 v S1 o1 _ fun σ' s' ρ' S' => C.nx σ' s' ρ' E2 S' k
/-- the iterator J, in n turns, gives ys -/
def Good (K : PySem.W.Frag) (J : It) (s0 : Gh) (ρ0 : List Addr) (n : Nat) (ys : Nat → OE) (P : Nat → En → Prop) : Prop :=
  ∀ k σ s ρ E', Sat K ⟨s0.G, s0.H, ρ0⟩ σ s ρ E' → P k E' →
    (k < n → J.go k s.H ∧ ∀ v H', J.yld k s.H v H' → ∃ s', s'.H = H' ∧ Sat K ⟨s0.G, s0.H, ρ0⟩ σ s' ρ E' ∧ OeR K s'.G ρ (ys k) v) ∧ (n ≤ k → J.stop k s.H)
theorem w_for_core {wi : TI} {g : TG} (n : Nat) (ys : Nat → OE) (T : Nat → En → En) (P : Nat → En → Prop)
    (hw : ∀ σ s ρ, Sat K B σ s ρ E → ∀ R : It → Hp → Prop, (∀ J s' ρ', Sat K B σ s' ρ' E1 → Good K J s' ρ' n ys P → R J s'.H) → wi σ s.H R) (h0 : P 0 E1)
    (hT : ∀ k E', k < n → P k E' → ∀ B, Tg K B g (ys k) E' (T k E'))
    (hs : ∀ B' : Bs, B'.io.length = E1.ow.length → ∀ k E', k < n → P k E' → W K B' ts (T k E') { nx := P (k + 1), ct := P (k + 1), bk := D.nx, rt := D.rt })
    (hd : ∀ E', P n E' → D.nx E') : W K B (tFor wi g ts) E D := fun σ s ρ D0 S C =>
  hw σ s ρ S _ fun J s1 ρ1 S1 G => by
    refine ⟨fun i m σ H => m = n - i ∧ i ≤ n ∧ ∃ s ρ E', s.H = H ∧ Sat K ⟨s1.G, s1.H, ρ1⟩ σ s ρ E' ∧ P i E', ⟨n, by simp, Nat.zero_le _, s1, ρ1, E1, rfl, S1.rebase, h0⟩, ?_⟩
    have back : ∀ {σ' s' ρ' E'}, Sat K ⟨s1.G, s1.H, ρ1⟩ σ' s' ρ' E' → Sat K B σ' s' ρ' E' := fun S' => ⟨S'.own, S1.fr.trans S'.fr, S'.len, S'.sl⟩
    rintro i m σ H ⟨rfl, hi, s, ρ, E', rfl, S', p⟩
    obtain ⟨g1, g2⟩ := G i σ s ρ E' S' p
    by_cases hlt : i < n
    · refine .inr ⟨(g1 hlt).1, fun σ H => ∃ s ρ E', s.H = H ∧ Sat K ⟨s1.G, s1.H, ρ1⟩ σ s ρ E' ∧ P (i + 1) E', fun σ' H' z => ⟨n - (i + 1), by omega, rfl, hlt, z⟩, fun v H' y => ?_⟩
      obtain ⟨s2, rfl, S2, o2⟩ := (g1 hlt).2 v H' y
      refine hT i E' hlt p _ σ s2 ρ v S2 o2 _ fun σ3 s3 ρ3 S3 => ?_
      exact hs ⟨s1.G, s1.H, ρ1⟩ S1.own.len i E' hlt p σ3 s3 ρ3 _ S3 ⟨fun σ4 s4 ρ4 E4 S4 p4 => ⟨s4, ρ4, E4, rfl, S4, p4⟩, fun v σ4 s4 ρ4 E4 x S4 o4 p4 => C.rt v σ4 s4 ρ4 E4 x (back S4) o4 p4,
        fun σ4 s4 ρ4 E4 S4 p4 => C.nx σ4 s4 ρ4 E4 (back S4) p4, fun σ4 s4 ρ4 E4 S4 p4 => ⟨s4, ρ4, E4, rfl, S4, p4⟩⟩
    · have e : i = n := by omega
      subst e
      exact .inl ⟨g2 (Nat.le_refl _), C.nx σ s ρ E' (back S') (hd E' p)⟩
/-- for .. in a list that stands while it is walked -/
theorem w_forL {g : TG} (h : Ev K B te E x E1) (T : Nat → En → En) (P : Nat → En → Prop) (h0 : P 0 E1) (hq : ∀ k E', P k E' → SqO E' x xs) (hT : ∀ k y E', xs[k]? = some y → P k E' → ∀ B, Tg K B g y E' (T k E'))
    (hs : ∀ B' : Bs, B'.io.length = E1.ow.length → ∀ k y E', xs[k]? = some y → P k E' → W K B' ts (T k E') { nx := P (k + 1), ct := P (k + 1), bk := D.nx, rt := D.rt })
    (hd : ∀ E', P xs.length E' → D.nx E') : W K B (tFor (iList K te) g ts) E D := by
  have hx : ∀ {k : Nat}, k < xs.length → xs[k]? = some (xs.getD k (.z .none)) := fun {k} hk => by
    rw [List.getElem?_eq_getElem hk, List.getD_eq_getElem?_getD, List.getElem?_eq_getElem hk]; rfl
  refine w_for_core (E1 := E1) xs.length (fun k => xs.getD k (.z .none)) T P (fun σ s ρ S R q => ?_) h0 (fun k E' hk p B => hT k _ E' (hx hk) p B) (fun B' hB k E' hk p => hs B' hB k _ E' (hx hk) p) hd
  refine h σ s ρ S _ fun v s1 ρ1 T1 S1 o1 => ?_
  obtain ⟨a, vs, rfl, hl, hp⟩ := sq_dp S1 (hq 0 E1 h0) o1
  refine ⟨a, rfl, ⟨vs, hl⟩, q _ s1 ρ1 S1 fun k σ' s' ρ' E' S' p => ?_⟩
  obtain ⟨a', vs', e, hl', hp'⟩ := sq_dp S' (hq k E' p) (oe_up S'.fr.g (S'.fr.io.imp fun t z => z.1) o1)
  cases e
  refine ⟨fun hk => ?_, fun hk => ⟨vs', hl', by rw [← paired_len hp']; exact hk⟩⟩
  obtain ⟨w, hw, ow⟩ := paired_get' hp' (hx hk)
  refine ⟨⟨vs', w, hl', hw⟩, fun v H' y => ?_⟩
  obtain ⟨rfl, y⟩ := y
  have hv := y vs' hl'
  rw [hw] at hv; cases hv
  exact ⟨s', rfl, S', ow⟩
theorem w_forT {g : TG} {ds : List PyData} (h : Ev K B te E (.z (.tuple ds)) E1) (T : Nat → En → En) (P : Nat → En → Prop) (h0 : P 0 E1) (hT : ∀ k y E', ds[k]? = some y → P k E' → ∀ B, Tg K B g (.z y) E' (T k E'))
    (hs : ∀ B' : Bs, B'.io.length = E1.ow.length → ∀ k y E', ds[k]? = some y → P k E' → W K B' ts (T k E') { nx := P (k + 1), ct := P (k + 1), bk := D.nx, rt := D.rt })
    (hd : ∀ E', P ds.length E' → D.nx E') : W K B (tFor (iTup K te) g ts) E D := by
  have hx : ∀ {k : Nat}, k < ds.length → ds[k]? = some (ds.getD k .none) := fun {k} hk => by
    rw [List.getElem?_eq_getElem hk, List.getD_eq_getElem?_getD, List.getElem?_eq_getElem hk]; rfl
  refine w_for_core (E1 := E1) ds.length (fun k => .z (ds.getD k .none)) T P (fun σ s ρ S R q => ?_) h0 (fun k E' hk p B => hT k _ E' (hx hk) p B) (fun B' hB k E' hk p => hs B' hB k _ E' (hx hk) p) hd
  refine h σ s ρ S _ fun v s1 ρ1 T1 S1 o1 => ?_
  obtain ⟨a, vs, rfl, hl, hp⟩ := tq_dp o1
  refine ⟨a, rfl, ⟨vs, hl⟩, q _ s1 ρ1 S1 fun k σ' s' ρ' E' S' p => ?_⟩
  obtain ⟨a', vs', e, hl', hp'⟩ := tq_dp (oe_up S'.fr.g (S'.fr.io.imp fun t z => z.1) o1)
  cases e
  have hn := paired_len hp'
  rw [List.length_map] at hn
  refine ⟨fun hk => ?_, fun hk => ⟨vs', hl', by rw [← hn]; exact hk⟩⟩
  obtain ⟨w, hw, ow⟩ := paired_get' (i := k) hp' (by rw [List.getElem?_map, hx hk]; rfl)
  refine ⟨⟨vs', w, hl', hw⟩, fun v H' y => ?_⟩
  obtain ⟨rfl, y⟩ := y
  have hv := y vs' hl'
  rw [hw] at hv; cases hv
  exact ⟨s', rfl, S', ow⟩
theorem w_forR1 {g : TG} {n : Int} (h : EvA K B ar E [.z (.int n)] E1) (hn : -1000000000 ≤ n ∧ n ≤ 1000000000) (T : Nat → En → En) (P : Nat → En → Prop) (h0 : P 0 E1) (hT : ∀ (k : Nat) E', (k : Int) < n → P k E' → ∀ B, Tg K B g (.z (.int k)) E' (T k E'))
    (hs : ∀ B' : Bs, B'.io.length = E1.ow.length → ∀ (k : Nat) E', (k : Int) < n → P k E' → W K B' ts (T k E') { nx := P (k + 1), ct := P (k + 1), bk := D.nx, rt := D.rt })
    (hd : ∀ E', P n.toNat E' → D.nx E') : W K B (tFor (iRng1 ar) g ts) E D := by
  refine w_for_core (E1 := E1) n.toNat (fun k => .z (.int k)) T P (fun σ s ρ S R q => ?_) h0 (fun k E' hk p B => hT k E' (by omega) p B) (fun B' hB k E' hk p => hs B' hB k E' (by omega) p) hd
  refine h σ s ρ S _ fun vs s1 ρ1 T1 S1 o1 => ?_
  cases o1 with
  | cons o o' =>
    cases o'
    refine ⟨n, by rw [dp_int o], by omega, by omega, q _ s1 ρ1 S1 fun k σ' s' ρ' E' S' p => ⟨fun hk => ⟨hk, fun v H' y => ?_⟩, fun hk => hk⟩⟩
    obtain ⟨rfl, rfl⟩ := y
    refine ⟨s', rfl, S', ?_⟩
    rw [Int.zero_add]
    exact ever_int _ _
theorem w_forR2 {g : TG} {m n : Int} (h : EvA K B ar E [.z (.int m), .z (.int n)] E1) (hn : (-1000000000 ≤ m ∧ m ≤ 1000000000) ∧ -1000000000 ≤ n ∧ n ≤ 1000000000) (T : Nat → En → En) (P : Nat → En → Prop) (h0 : P 0 E1)
    (hT : ∀ (k : Nat) E', m + (k : Int) < n → P k E' → ∀ B, Tg K B g (.z (.int (m + k))) E' (T k E'))
    (hs : ∀ B' : Bs, B'.io.length = E1.ow.length → ∀ (k : Nat) E', m + (k : Int) < n → P k E' → W K B' ts (T k E') { nx := P (k + 1), ct := P (k + 1), bk := D.nx, rt := D.rt })
    (hd : ∀ E', P (n - m).toNat E' → D.nx E') : W K B (tFor (iRng2 ar) g ts) E D := by
  refine w_for_core (E1 := E1) (n - m).toNat (fun k => .z (.int (m + k))) T P (fun σ s ρ S R q => ?_) h0 (fun k E' hk p B => hT k E' (by omega) p B) (fun B' hB k E' hk p => hs B' hB k E' (by omega) p) hd
  refine h σ s ρ S _ fun vs s1 ρ1 T1 S1 o1 => ?_
  cases o1 with
  | cons o o' =>
    cases o' with
    | cons o2 o' =>
      cases o'
      refine ⟨m, n, by rw [dp_int o, dp_int o2], ⟨by omega, by omega, by omega, by omega⟩, q _ s1 ρ1 S1 fun k σ' s' ρ' E' S' p => ⟨fun hk => ⟨hk, fun v H' y => ?_⟩, fun hk => hk⟩⟩
      obtain ⟨rfl, rfl⟩ := y
      exact ⟨s', rfl, S', ever_int _ _⟩
end
end Y

/-! Y4: what a def promises over data; its calls -/
namespace Y
open PySem L2
def OE.ren (f : Nat → Nat) : OE → OE
  | .z d => .z d
  | .r i => .r (f i)
def OD.ren (f : Nat → Nat) : OD → OD
  | .gone => .gone
  | .lst xs => .lst (xs.map (OE.ren f))
  | .dK kvs => .dK (kvs.map fun p => (p.1, p.2.ren f))
/-- the callee's number i is the caller's -/
def reix (ids : List Nat) (m i : Nat) : Nat := match ids[i]? with
  | some j => j
  | none => m + (i - ids.length)
def over : List OD → List Nat → List OD → List OD
  | ow, [], new => ow ++ new
  | ow, i :: ids, o :: os => over (ow.set i o) ids os
  | ow, _ :: _, [] => ow
theorem over_len : ∀ (ids : List Nat) (ow new : List OD), ids.length ≤ new.length → (over ow ids new).length = ow.length + (new.length - ids.length)
  | [], ow, new, _ => by simp [over]
  | i :: ids, ow, [], h => by simp at h
  | i :: ids, ow, o :: os, h => by
    have := over_len ids (ow.set i o) os (by simpa using h)
    simp only [over, this, List.length_set, List.length_cons]
    omega
theorem over_hi : ∀ (ids : List Nat) (ow new : List OD) (j : Nat), ids.length ≤ new.length → ow.length ≤ j → (over ow ids new)[j]? = new[ids.length + (j - ow.length)]?
  | [], ow, new, j, _, hj => by simp [over, List.getElem?_append_right hj]
  | i :: ids, ow, [], j, h, _ => by simp at h
  | i :: ids, ow, o :: os, j, h, hj => by
    have := over_hi ids (ow.set i o) os j (by simpa using h) (by simpa using hj)
    simp only [over, this, List.length_set, List.length_cons]
    rw [show ids.length + 1 + (j - ow.length) = (ids.length + (j - ow.length)) + 1 by omega, List.getElem?_cons_succ]
theorem over_out : ∀ (ids : List Nat) (ow new : List OD) (j : Nat), ids.length ≤ new.length → j < ow.length → j ∉ ids → (over ow ids new)[j]? = ow[j]?
  | [], ow, new, j, _, hj, _ => by simp [over, List.getElem?_append_left hj]
  | i :: ids, ow, [], j, h, _, _ => by simp at h
  | i :: ids, ow, o :: os, j, h, hj, hn => by
    have hij : i ≠ j := fun e => hn (by simp [e])
    have := over_out ids (ow.set i o) os j (by simpa using h) (by simpa using hj) (fun e => hn (by simp [e]))
    simp only [over, this]
    rw [List.getElem?_set_ne hij]
theorem over_in : ∀ (ids : List Nat) (ow new : List OD) (k j : Nat), ids.Nodup → ids.length ≤ new.length → j < ow.length → ids[k]? = some j → (over ow ids new)[j]? = new[k]?
  | [], ow, new, k, j, _, _, _, h => by simp at h
  | i :: ids, ow, [], k, j, _, h, _, _ => by simp at h
  | i :: ids, ow, o :: os, 0, j, hn, h, hj, hk => by
    simp at hk
    subst hk
    simp only [over]
    rw [over_out ids (ow.set i o) os i (by simpa using h) (by simpa using hj) (List.nodup_cons.mp hn).1, List.getElem?_set_self hj]
    rfl
  | i :: ids, ow, o :: os, k + 1, j, hn, h, hj, hk => by
    simp only [over]
    rw [over_in ids (ow.set i o) os k j (List.nodup_cons.mp hn).2 (by simpa using h) (by simpa using hj) (by simpa using hk)]
    simp

abbrev Xf := Option (List (Str × PyData))
abbrev DSp := List OE → List OD → (OE → List OD → Prop) → (Value → Xf → List OD → Prop) → Prop
section
variable (K : PySem.W.Frag)
/-- an exception's own dict -/
def XR (s : Gh) (fs : Xf) (dO : Option Addr) : Prop := match fs with
  | none => dO = none
  | some l => ∃ d ws, dO = some d ∧ s.H d = some (.xd ws) ∧ Paired (fun (p : Str × PyData) (q : Str × V) => p.1 = q.1 ∧ Dp K s.G q.2 p.2) l ws
def spD (n : Nat) (F : DSp) : Sp := fun vs H Q E => vs.length = n ∧ ∃ (s : Gh) (ρ : List Addr) (xs : List OE) (ow : List OD), s.H = H ∧ Own K s ρ ow ∧ OesR K s.G ρ xs vs ∧
  F xs ow (fun x ow' => ∀ v s' ρ', Fr ⟨s.G, s.H, ρ⟩ s' ρ' → Own K s' ρ' ow' → OeR K s'.G ρ' x v → Q v s'.H)
    (fun cls fs ow' => ∀ dO s' ρ', Fr ⟨s.G, s.H, ρ⟩ s' ρ' → Own K s' ρ' ow' → XR K s' fs dO → E cls dO s'.H)
end
section
variable {K : PySem.W.Frag} {B : Bs} {E E1 E2 E' : En} {D : Dn} {ta tb tc te : TE} {t u : TT} {t1 t2 ts : TS} {x y : OE} {d d1 d2 : PyData} {xs : List OE} {ar : TA} {b : Bool} {σ : St} {s s' : Gh} {ρ ρ' : List Addr} {ids : List Nat}
/-- the callee's addresses -/
def pickA (ρ : List Addr) (ids : List Nat) : List Addr := ids.filterMap fun i => ρ[i]?
theorem pickA_get : ∀ (ids : List Nat) (k : Nat), (∀ i ∈ ids, i < ρ.length) → (pickA ρ ids)[k]? = (ids[k]?).bind fun i => ρ[i]?
  | [], k, _ => by simp [pickA]
  | i :: ids, k, h => by
    have hi : i < ρ.length := h i (by simp)
    have ih := fun k => pickA_get ids k fun j hj => h j (by simp [hj])
    unfold pickA at ih ⊢
    rw [List.filterMap_cons, List.getElem?_eq_getElem hi]
    cases k with
    | zero => simp [List.getElem?_eq_getElem hi]
    | succ k => simpa using ih k
theorem pickA_len (h : ∀ i ∈ ids, i < ρ.length) : (pickA ρ ids).length = ids.length := by
  induction ids with
  | nil => rfl
  | cons i ids ih =>
    have hi : i < ρ.length := h i (by simp)
    unfold pickA at ih ⊢
    rw [List.filterMap_cons, List.getElem?_eq_getElem hi]
    simp [ih fun j hj => h j (by simp [hj])]
theorem pickA_sub {a : Addr} (h : a ∈ pickA ρ ids) : a ∈ ρ := by
  obtain ⟨i, _, e⟩ := List.mem_filterMap.mp h
  exact List.mem_of_getElem? e
theorem pickA_nd (hρ : ρ.Nodup) : ∀ {ids : List Nat}, ids.Nodup → (∀ i ∈ ids, i < ρ.length) → (pickA ρ ids).Nodup
  | [], _, _ => by simp [pickA]
  | i :: ids, hn, h => by
    have hi : i < ρ.length := h i (by simp)
    have ih := pickA_nd hρ (List.nodup_cons.mp hn).2 fun j hj => h j (by simp [hj])
    unfold pickA at ih ⊢
    rw [List.filterMap_cons, List.getElem?_eq_getElem hi]
    refine List.nodup_cons.mpr ⟨fun hm => ?_, ih⟩
    obtain ⟨j, hj, e⟩ := List.mem_filterMap.mp hm
    have hjl := h j (by simp [hj])
    rw [List.getElem?_eq_getElem hjl] at e
    have := (List.getElem_inj hρ).mp (Option.some.inj e)
    subst this
    exact (List.nodup_cons.mp hn).1 hj
/-- a callee's reading is a caller's, and back -/
theorem ren_in (hlt : ∀ i ∈ ids, i < ρ.length) {x : OE} {v : V} (h : OeR K s.G ρ (x.ren (reix ids ρ.length)) v) : OeR K s.G (pickA ρ ids) x v := by
  cases x with
  | z d => exact h
  | r i =>
    obtain ⟨a, ha, hv⟩ := h
    refine ⟨a, ?_, hv⟩
    rw [pickA_get ids i hlt]
    unfold reix at ha
    cases e : ids[i]? with
    | none =>
      rw [e] at ha
      have := (List.getElem?_eq_some_iff.mp ha).1
      simp at this; omega
    | some j => rw [e] at ha; exact ha
theorem ren_out (hlt : ∀ i ∈ ids, i < ρ.length) {t : List Addr} {x : OE} {v : V} (h : OeR K s.G (pickA ρ ids ++ t) x v) : OeR K s.G (ρ ++ t) (x.ren (reix ids ρ.length)) v := by
  cases x with
  | z d => exact h
  | r i =>
    obtain ⟨a, ha, hv⟩ := h
    refine ⟨a, ?_, hv⟩
    unfold reix
    cases e : ids[i]? with
    | none =>
      have hi : ids.length ≤ i := List.getElem?_eq_none_iff.mp e
      show (ρ ++ t)[ρ.length + (i - ids.length)]? = some a
      rw [List.getElem?_append_right (by rw [pickA_len hlt]; exact hi), pickA_len hlt] at ha
      rw [List.getElem?_append_right (by omega)]
      rw [← ha]; congr 1; omega
    | some j =>
      have hi : i < ids.length := (List.getElem?_eq_some_iff.mp e).1
      show (ρ ++ t)[j]? = some a
      rw [List.getElem?_append_left (by rw [pickA_len hlt]; exact hi), pickA_get ids i hlt, e] at ha
      exact ix_app ha
theorem paired_map_l {α β γ : Type} {F : α → β → Prop} {f : γ → α} : ∀ {xs : List γ} {ys : List β}, Paired F (xs.map f) ys → Paired (fun a b => F (f a) b) xs ys
  | [], _, .nil => .nil
  | _ :: _, _, .cons r t => .cons r (paired_map_l t)
theorem paired_l_map {α β γ : Type} {F : α → β → Prop} {f : γ → α} : ∀ {xs : List γ} {ys : List β}, Paired (fun a b => F (f a) b) xs ys → Paired F (xs.map f) ys
  | _, _, .nil => .nil
  | _, _, .cons r t => .cons r (paired_l_map t)
theorem od_in (hlt : ∀ i ∈ ids, i < ρ.length) {o : Option HO} {x : OD} (h : OdR K s.G ρ o (x.ren (reix ids ρ.length))) : OdR K s.G (pickA ρ ids) o x := by
  cases x with
  | gone => trivial
  | lst xs =>
    obtain ⟨vs, h1, h2⟩ := h
    exact ⟨vs, h1, paired_up (paired_map_l h2) fun _ _ q => ren_in (s := s) hlt q⟩
  | dK kvs =>
    obtain ⟨ws, h1, h2⟩ := h
    exact ⟨ws, h1, paired_up (paired_map_l h2) fun _ _ q => ⟨q.1, ren_in (s := s) hlt q.2⟩⟩
theorem od_out (hlt : ∀ i ∈ ids, i < ρ.length) {t : List Addr} {o : Option HO} {x : OD} (h : OdR K s.G (pickA ρ ids ++ t) o x) : OdR K s.G (ρ ++ t) o (x.ren (reix ids ρ.length)) := by
  cases x with
  | gone => trivial
  | lst xs =>
    obtain ⟨vs, h1, h2⟩ := h
    exact ⟨vs, h1, paired_l_map (paired_up h2 fun _ _ q => ren_out (s := s) hlt q)⟩
  | dK kvs =>
    obtain ⟨ws, h1, h2⟩ := h
    exact ⟨ws, h1, paired_l_map (paired_up h2 fun _ _ q => ⟨q.1, ren_out (s := s) hlt q.2⟩)⟩
theorem ren_gone {f : Nat → Nat} {o : OD} (h : o.ren f ≠ .gone) : o ≠ .gone := fun e => h (by subst e; rfl)
/-- what the callee may lean on -/
theorem Sat.lend (S : Sat K B σ s ρ E) {owC : List OD} (hn : ids.Nodup) (ho : ids.map (fun i => E.ow[i]?) = owC.map fun o => some (o.ren (reix ids E.ow.length))) :
    (∀ i ∈ ids, i < ρ.length) ∧ Own K s (pickA ρ ids) owC := by
  have hlt : ∀ i ∈ ids, i < ρ.length := fun i hi => by
    have : E.ow[i]? ∈ ids.map (fun i => E.ow[i]?) := List.mem_map_of_mem hi
    rw [ho] at this
    obtain ⟨o, _, e⟩ := List.mem_map.mp this
    rw [S.own.len]; exact (List.getElem?_eq_some_iff.mp e.symm).1
  have hl : ids.length = owC.length := by simpa using congrArg List.length ho
  refine ⟨hlt, ⟨by rw [pickA_len hlt, hl], pickA_nd S.own.nd hn hlt, fun i a e => ?_, fun i a o e1 e2 e3 => ?_⟩⟩
  · obtain ⟨j, hj⟩ := List.getElem?_of_mem (pickA_sub (List.mem_of_getElem? e))
    exact S.own.ex j a hj
  · rw [pickA_get ids i hlt] at e1
    cases e : ids[i]? with
    | none => rw [e] at e1; cases e1
    | some j =>
      rw [e] at e1
      have e1' : ρ[j]? = some a := e1
      have ej : E.ow[j]? = some (o.ren (reix ids E.ow.length)) := by
        have h1 : (ids.map (fun i => E.ow[i]?))[i]? = some (E.ow[j]?) := by rw [List.getElem?_map, e]; rfl
        rw [ho, List.getElem?_map, e2] at h1
        exact (Option.some.inj h1).symm
      obtain ⟨r1, r2⟩ := S.own.rep j a _ e1' ej (fun z => e3 (by cases o <;> first | rfl | exact nomatch z))
      rw [← S.own.len] at r2
      exact ⟨r1, od_in hlt r2⟩
/-- behind the callee -/
theorem Sat.back (S : Sat K B σ s ρ E) {owC ow' : List OD} (hn : ids.Nodup) (ho : ids.map (fun i => E.ow[i]?) = owC.map fun o => some (o.ren (reix ids E.ow.length))) (hl : ids.length ≤ ow'.length)
    {ρc : List Addr} (F : Fr ⟨s.G, s.H, pickA ρ ids⟩ s' ρc) (O : Own K s' ρc ow') :
    ∃ t, ρc = pickA ρ ids ++ t ∧ Sat K B σ s' (ρ ++ t) ⟨E.sl, over E.ow ids (ow'.map (OD.ren (reix ids E.ow.length)))⟩ ∧ Step s ρ s' (ρ ++ t) := by
  obtain ⟨hlt, OC⟩ := S.lend hn ho
  obtain ⟨t, e1, e2⟩ := F.io
  have e1' : ρc = pickA ρ ids ++ t := e1
  subst e1'
  have hlt' : ∀ i ∈ ids, i < E.ow.length := fun i hi => by rw [← S.own.len]; exact hlt i hi
  have hlm : ids.length ≤ (ow'.map (OD.ren (reix ids E.ow.length))).length := by simpa using hl
  have hlen : (pickA ρ ids).length + t.length = ow'.length := by simpa using O.len
  rw [pickA_len hlt] at hlen
  have hrr : ∃ u, ρ ++ t = ρ ++ u := ⟨t, rfl⟩
  have hnew : ∀ a, s.H a ≠ none → s'.G a = s.G a := F.n
  refine ⟨t, rfl, ⟨⟨?_, ?_, fun i a e => ?_, fun i a o g1 g2 g3 => ?_⟩, ⟨?_, fun a o n e => ?_, fun a e => F.p a (S.fr.p a e), kept_trans S.fr.g F.g, fun a e => (hnew a (S.fr.p a e)).trans (S.fr.n a e)⟩, S.len, fun i x e => ?_⟩, ⟨F.g, hrr⟩⟩
  · show (ρ ++ t).length = (over E.ow ids _).length
    rw [over_len _ _ _ hlm, List.length_append, List.length_map, S.own.len]; omega
  · refine List.nodup_append.mpr ⟨S.own.nd, (List.nodup_append.mp O.nd).2.1, fun a ha b hb q => ?_⟩
    subst q
    obtain ⟨j, hj⟩ := List.getElem?_of_mem ha
    exact S.own.ex j a hj (e2 a hb)
  · by_cases hi : i < ρ.length
    · rw [List.getElem?_append_left hi] at e
      exact F.p a (S.own.ex i a e)
    · rw [List.getElem?_append_right (Nat.le_of_not_lt hi)] at e
      exact O.ex ((pickA ρ ids).length + (i - ρ.length)) a (by rw [List.getElem?_append_right (by omega)]; simpa using e)
  · have g2' : (over E.ow ids (ow'.map (OD.ren (reix ids E.ow.length))))[i]? = some o := g2
    by_cases hi : i < ρ.length
    · rw [List.getElem?_append_left hi] at g1
      have hio : i < E.ow.length := by rw [← S.own.len]; exact hi
      by_cases hm : i ∈ ids
      · obtain ⟨k, hk⟩ := List.getElem?_of_mem hm
        rw [over_in ids _ _ k i hn hlm hio hk, List.getElem?_map] at g2'
        cases ek : ow'[k]? with
        | none => rw [ek] at g2'; cases g2'
        | some oc =>
          rw [ek] at g2'
          have eo : oc.ren (reix ids E.ow.length) = o := Option.some.inj g2'
          subst eo
          have hkl : k < (pickA ρ ids).length := by rw [pickA_len hlt]; exact (List.getElem?_eq_some_iff.mp hk).1
          have gk : (pickA ρ ids ++ t)[k]? = some a := by
            rw [List.getElem?_append_left hkl, pickA_get ids k hlt, hk]; exact g1
          obtain ⟨r1, r2⟩ := O.rep k a oc gk ek (ren_gone g3)
          refine ⟨r1, ?_⟩
          have := od_out (s := s') hlt r2
          rw [S.own.len] at this; exact this
      · rw [over_out ids _ _ i hlm hio hm] at g2'
        obtain ⟨r1, r2⟩ := S.own.rep i a o g1 g2' g3
        have hna : a ∉ pickA ρ ids := fun hp => by
          obtain ⟨j, hj, ej⟩ := List.mem_filterMap.mp hp
          obtain ⟨q1, q2⟩ := List.getElem?_eq_some_iff.mp g1
          obtain ⟨q3, q4⟩ := List.getElem?_eq_some_iff.mp ej
          have := (List.getElem_inj S.own.nd).mp (q2.trans q4.symm)
          subst this
          exact hm hj
        refine ⟨(hnew a (S.own.ex i a g1)).trans r1, ?_⟩
        cases eh : s.H a with
        | none => exact absurd eh (S.own.ex i a g1)
        | some oh =>
          rw [eh] at r2
          rw [F.h a oh hna eh]
          exact od_up F.g hrr r2
    · have hi' : ρ.length ≤ i := Nat.le_of_not_lt hi
      rw [over_hi ids _ _ i hlm (by rw [← S.own.len]; exact hi'), List.getElem?_map] at g2'
      cases ek : ow'[ids.length + (i - E.ow.length)]? with
      | none => rw [ek] at g2'; cases g2'
      | some oc =>
        rw [ek] at g2'
        have eo : oc.ren (reix ids E.ow.length) = o := Option.some.inj g2'
        subst eo
        rw [List.getElem?_append_right hi'] at g1
        have gk : (pickA ρ ids ++ t)[ids.length + (i - E.ow.length)]? = some a := by
          rw [List.getElem?_append_right (by rw [pickA_len hlt]; omega), pickA_len hlt, ← g1, ← S.own.len]; congr 1; omega
        obtain ⟨r1, r2⟩ := O.rep _ a oc gk ek (ren_gone g3)
        refine ⟨r1, ?_⟩
        have := od_out (s := s') hlt r2
        rw [S.own.len] at this; exact this
  · obtain ⟨t0, f1, f2⟩ := S.fr.io
    refine ⟨t0 ++ t, by rw [f1, List.append_assoc], fun a ha => ?_⟩
    rcases List.mem_append.mp ha with q | q
    · exact f2 a q
    · cases eb : B.H a with
      | none => rfl
      | some o => exact absurd (e2 a q) (S.fr.p a (by rw [eb]; exact fun z => nomatch z))
  · obtain ⟨t0, f1, f2⟩ := S.fr.io
    refine F.h a o (fun hp => ?_) (S.fr.h a o n e)
    have hm := pickA_sub hp
    rw [f1] at hm
    rcases List.mem_append.mp hm with q | q
    · exact n q
    · rw [f2 a q] at e; cases e
  · obtain ⟨v, h1, h2⟩ := S.sl i x e
    exact ⟨v, h1, oe_up F.g hrr h2⟩
/-- a call of a def: ids tell which of the caller's owned objects it is given -/
theorem ev_call {F : DSp} {E0 : XK} {xsC : List OE} {owC owC' : List OD} {xC : OE} {n : Nat} (hlen : xsC.length = n) (ids : List Nat) (Ψ : Value → Xf → List OD → Prop) (ha : EvA K B ar E xs E1) (hx : xs = xsC.map (OE.ren (reix ids E1.ow.length))) (hn : ids.Nodup)
    (ho : ids.map (fun i => E1.ow[i]?) = owC.map fun o => some (o.ren (reix ids E1.ow.length))) (hF : ∀ (Φ : OE → List OD → Prop) (Ψ' : Value → Xf → List OD → Prop), Φ xC owC' → (∀ cls fs ow', Ψ cls fs ow' → Ψ' cls fs ow') → F xsC owC Φ Ψ') (hl : ids.length ≤ owC'.length)
    (hX : ∀ cls fs ow', Ψ cls fs ow' → ids.length ≤ ow'.length ∧ ∀ σ s ρ dO, Sat K B σ s ρ ⟨E1.sl, over E1.ow ids (ow'.map (OD.ren (reix ids E1.ow.length)))⟩ → XR K s fs dO → E0 cls dO s.H) :
    Ev K B (tCall (spD K n F) [] E0 ar) E (xC.ren (reix ids E1.ow.length)) ⟨E1.sl, over E1.ow ids (owC'.map (OD.ren (reix ids E1.ow.length)))⟩ := fun σ s ρ S Q q =>
  ha σ s ρ S _ fun vs s1 ρ1 T1 S1 o1 => by
    obtain ⟨hlt, OC⟩ := S1.lend hn ho
    subst hx
    show spD K n F (vs ++ []) s1.H Q E0
    rw [List.append_nil]
    refine ⟨by rw [← paired_len o1, List.length_map, hlen], s1, pickA ρ1 ids, xsC, owC, rfl, OC, ?_, hF _ _ ?_ ?_⟩
    · rw [← S1.own.len] at o1
      exact paired_up (paired_map_l o1) fun _ _ z => ren_in (s := s1) hlt z
    · intro v s' ρ' F' O' o'
      obtain ⟨t, e, S', T'⟩ := S1.back hn ho hl F' O'
      subst e
      refine q v s' (ρ1 ++ t) (T1.trans T') S' ?_
      have := ren_out (s := s') hlt o'
      rw [S1.own.len] at this; exact this
    · intro cls fs ow' ψ dO s' ρ' F' O' xr
      obtain ⟨l', k⟩ := hX cls fs ow' ψ
      obtain ⟨t, e, S', T'⟩ := S1.back hn ho l' F' O'
      exact k σ s' (ρ1 ++ t) dO S' xr
/-- no owned object is lent; the answer is frozen -/
theorem ev_call0 {F : DSp} {E0 : XK} {ds : List PyData} {n : Nat} (hlen : ds.length = n) (ha : EvA K B ar E (ds.map .z) E1) (hF : ∀ (Φ : OE → List OD → Prop) (Ψ : Value → Xf → List OD → Prop), Φ (.z d) [] → F (ds.map .z) [] Φ Ψ) :
    Ev K B (tCall (spD K n F) [] E0 ar) E (.z d) E1 := by
  have h := ev_call (K := K) (B := B) (E0 := E0) (F := F) (xsC := ds.map .z) (owC := []) (owC' := []) (xC := .z d) (n := n) (by simpa using hlen) [] (fun _ _ _ => False) ha (by rw [List.map_map]; rfl) .nil rfl (fun Φ Ψ h _ => hF Φ Ψ h) (Nat.le_refl _) (fun _ _ _ z => z.elim)
  simpa [over, OE.ren] using h
/-- a def's body holds its promise -/
theorem fn_ok {P : Program} {w : World} {mg : Str → Option Value} {base : Heap} {xn qual : Str} {st : Stmt} {f : Addr} {fd : FuncData} {N ps : List Str} {k : Nat} {F : DSp} (T : Fun K xn qual st f fd) (S : FnScope N ps (defScope st))
    (hbody : ∀ (cdv : Value) (A : Around) (outer : List Env) (s : Shared) (H : Hp) (E : XK), Room k (A.deeper (PyProof.Rows.envOfC qual (defScope st) s.heap.objs.size f cdv)) →
      ∃ t, PSs (cxOf CX0 P w K mg base N qual (defScope st) f cdv A outer s H E).nox (defBody st) t ∧
        ∀ B xs ow Φ Ψ, B.io.length = ow.length → F xs ow Φ Ψ → W K B t ⟨xs.map some ++ List.replicate (N.length - xs.length) none, ow⟩ { nx := fun E' => Φ (.z .none) E'.ow, rt := fun x E' => Φ x E'.ow }) :
    FnOk P w K mg base CX0 (k + 1) f fd ps (spD K ps.length F) := by
  refine T.ok S (fun vs H Q E h => ?_) (fun cdv A outer s H vs Q E hr h => ?_)
  · exact h.1
  · obtain ⟨t, ht, hw⟩ := hbody cdv A outer s H E hr
    refine ⟨t, ht, ?_⟩
    obtain ⟨_, s0, ρ, xs, ow, rfl, O, o, h⟩ := h
    refine hw ⟨s0.G, s0.H, ρ⟩ xs ow _ _ O.len h (L2.start N vs) s0 ρ _ ⟨O, Fr.refl s0 ρ, ?_, fun i x e => ?_⟩ ⟨fun σ s ρ' E' S' φ => ?_, fun v σ s ρ' E' x S' ox φ => ?_, fun _ _ _ _ _ z => z.elim, fun _ _ _ _ _ z => z.elim⟩
    · unfold L2.start
      simp [paired_len o]
    · have e' : (xs.map some ++ List.replicate (N.length - xs.length) none)[i]? = some (some x) := e
      rw [List.getElem?_append] at e'
      split at e'
      · rename_i hi
        rw [List.getElem?_map] at e'
        cases ex : xs[i]? with
        | none => rw [ex] at e'; cases e'
        | some y =>
          rw [ex] at e'
          have : y = x := Option.some.inj (Option.some.inj e')
          subst this
          obtain ⟨v, hv, ov⟩ := paired_get' o ex
          refine ⟨v, ?_, ov⟩
          unfold L2.start
          rw [List.getElem?_append_left (by simpa using (List.getElem?_eq_some_iff.mp hv).1), List.getElem?_map, hv]; rfl
      · have := List.mem_of_getElem? e'
        rw [List.mem_replicate] at this
        cases this.2
    · exact φ .non s ρ' S'.fr S'.own (show Dp K s.G .non .none from .non)
    · exact φ v s ρ' S'.fr S'.own ox
end
end Y

/-! Y5: operators whatever their operands are; built-ins; where a def stands -/
namespace Y
open PySem L2 PyProof.Rows
/-! ### operators -/
abbrev rStrCat : R2 := fun x y H Q => ∃ i j, x = V.str i ∧ y = V.str j ∧ i.length + j.length ≤ sizeLine ∧ Q (.str (i ++ j)) H
section
variable {X : Cx}
theorem op_mulG : OpR X (binaryOp .Mult) (rI IntMulOk fun i j => .int (i * j)) := opI fun _ _ _ _ _ _ _ hc q => mul_int q hc
abbrev rAddU (K : PySem.W.Frag) : R2 := rOr (rI0 fun i j => .int (i + j)) (rOr rStrCat (rOr rCat (rCatT K)))
theorem op_addU : OpR X (binaryOp .Add) (rAddU X.K) := opr_or op_add (opr_or op_add_str (opr_or op_cat op_catT))
abbrev rMulU : R2 := rOr (rI IntMulOk fun i j => .int (i * j)) rRep
theorem op_mulU : OpR X (binaryOp .Mult) rMulU := opr_or op_mulG op_rep
abbrev rEqU (K : PySem.W.Frag) : R2 := rOr rEq (rEqD K)
abbrev rNeU (K : PySem.W.Frag) : R2 := rOr rNe (rNeD K)
theorem op_eqU (hu : X.A.units + 64 < cLine) : OpR X (compareOp .Eq) (rEqU X.K) := opr_or op_eq (op_eqD hu)
theorem op_neU (hu : X.A.units + 64 < cLine) : OpR X (compareOp .NotEq) (rNeU X.K) := opr_or op_ne (op_neD hu)
abbrev rLtS : R2 := fun x y H Q => ∃ i j, x = V.str i ∧ y = V.str j ∧ Q (.bl (decide (i.cps.toList < j.cps.toList))) H
abbrev rLtU : R2 := rOr (rI0 fun i j => .bl (decide (i < j))) rLtS
theorem op_ltU : OpR X (compareOp .Lt) rLtU := opr_or op_lt op_lt_str
end
section
variable {K : PySem.W.Frag} {B : Bs} {E E1 E2 E3 : En} {ta tb tc te : TE} {t u : TT} {x y z : OE} {d d1 d2 : PyData} {r r' : R2} {xs ys : List OE} {ar : TA} {b c : Bool} {i j : Int}
theorem sc_add : Sc2 K (rAddU K) (.int i) (.int j) (.int (i + j)) := (sc_I0 (ever_int _)).fst
theorem sc_addS {i j : Str} (h : i.length + j.length ≤ 100000) : Sc2 K (rAddU K) (.str i) (.str j) (.str (i ++ j)) := Sc2.snd (Sc2.fst fun H x y a b Q q => ⟨i, j, dp_str a, dp_str b, Nat.le_trans h (by decide), q _ (ever_str _)⟩)
theorem sc_sub : Sc2 K (rI0 fun i j => .int (i - j)) (.int i) (.int j) (.int (i - j)) := sc_I0 (ever_int _)
theorem mul_ok (h : (-(2 ^ 63) < i ∧ i < 2 ^ 63) ∨ (-(2 ^ 63) < j ∧ j < 2 ^ 63) ∨ (i.natAbs.log2 + j.natAbs.log2 < 100000000)) : IntMulOk i j := by
  have bits : ∀ {n : Int}, (-(2 ^ 63) < n ∧ n < 2 ^ 63) → Builtin.Int.intBits n ≤ 64 := fun {n} h => intBits_le_64 (by omega) (by omega)
  rcases h with h | h | h
  · exact .of_left (bits h)
  · exact .of_right (bits h)
  · have b : ∀ x : Int, Builtin.Int.intBits x ≤ x.natAbs.log2 + 1 := fun x => by
      unfold Builtin.Int.intBits
      split <;> omega
    have h1 := b i
    have h2 := b j
    have e : bitsLine = 134217728 := by decide
    unfold IntMulOk
    intro z
    rw [Bool.and_eq_true] at z
    have z2 := z.2
    unfold Builtin.Int.intTooBig at z2
    have z3 := of_decide_eq_true z2
    rw [e] at z3
    omega
theorem sc_mul (h : (-(2 ^ 63) < i ∧ i < 2 ^ 63) ∨ (-(2 ^ 63) < j ∧ j < 2 ^ 63) ∨ (i.natAbs.log2 + j.natAbs.log2 < 100000000)) : Sc2 K rMulU (.int i) (.int j) (.int (i * j)) := (sc_I (mul_ok h) (ever_int _)).fst
theorem sc_mod (h : 0 < j) : Sc2 K (rI (fun _ j => 0 < j) fun i j => .int (i % j)) (.int i) (.int j) (.int (i % j)) := sc_I h (ever_int _)
theorem sc_div (h : 0 < j) (h2 : j < 2 ^ 64) : Sc2 K (rI CDivW fun i j => .int (i / j)) (.int i) (.int j) (.int (i / j)) := sc_I ⟨h, Nat.lt_of_lt_of_le (PySem.Flt.log2_lt_of (k := 64) (by decide) (by omega)) (by decide)⟩ (ever_int _)
theorem sc_pow (h : 0 ≤ j ∧ j ≤ 1000000 ∧ i.natAbs < 2 ^ 64) : Sc2 K (rI CPow fun i j => .int (i ^ j.toNat)) (.int i) (.int j) (.int (i ^ j.toNat)) := sc_I h (ever_int _)
theorem sc_lt : Sc2 K rLtU (.int i) (.int j) (.bool (decide (i < j))) := (sc_I0 (ever_bl _)).fst
theorem sc_ltS {i j : Str} : Sc2 K rLtU (.str i) (.str j) (.bool (decide (i.cps.toList < j.cps.toList))) := Sc2.snd fun H x y a b Q q => ⟨i, j, dp_str a, dp_str b, q _ (ever_bl _)⟩
theorem sc_le : Sc2 K (rI0 fun i j => .bl (decide (i ≤ j))) (.int i) (.int j) (.bool (decide (i ≤ j))) := sc_I0 (ever_bl _)
theorem sc_gt : Sc2 K (rI0 fun i j => .bl (decide (j < i))) (.int i) (.int j) (.bool (decide (j < i))) := sc_I0 (ever_bl _)
theorem sc_ge : Sc2 K (rI0 fun i j => .bl (decide (j ≤ i))) (.int i) (.int j) (.bool (decide (j ≤ i))) := sc_I0 (ever_bl _)
theorem sc_eqD' (h1 : SeqAt.shaped d1 = true) (h2 : SeqAt.shaped d2 = true) : Sc2 K (rEqU K) d1 d2 (.bool (PyData.eqv d1 d2)) := (sc_eqD h1 h2).snd
theorem sc_neD' (h1 : SeqAt.shaped d1 = true) (h2 : SeqAt.shaped d2 = true) : Sc2 K (rNeU K) d1 d2 (.bool (!PyData.eqv d1 d2)) := (sc_neD h1 h2).snd
theorem sc_eq : Sc2 K (rEqU K) (.int i) (.int j) (.bool (decide (i = j))) := Sc2.fst fun H x y a b Q q => by
  rw [dp_int a, dp_int b]; exact ⟨rfl, q _ (by rw [show decide (V.int i = V.int j) = decide (i = j) by simp]; exact ever_bl _)⟩
theorem sc_ne : Sc2 K (rNeU K) (.int i) (.int j) (.bool (!decide (i = j))) := Sc2.fst fun H x y a b Q q => by
  rw [dp_int a, dp_int b]; exact ⟨rfl, q _ (by rw [show decide (V.int i = V.int j) = decide (i = j) by simp]; exact ever_bl _)⟩
theorem sc_eqS {i j : Str} : Sc2 K (rEqU K) (.str i) (.str j) (.bool (decide (i = j))) := Sc2.fst fun H x y a b Q q => by
  rw [dp_str a, dp_str b]; exact ⟨rfl, q _ (by rw [show decide (V.str i = V.str j) = decide (i = j) by simp]; exact ever_bl _)⟩
theorem sc_neS {i j : Str} : Sc2 K (rNeU K) (.str i) (.str j) (.bool (!decide (i = j))) := Sc2.fst fun H x y a b Q q => by
  rw [dp_str a, dp_str b]; exact ⟨rfl, q _ (by rw [show decide (V.str i = V.str j) = decide (i = j) by simp]; exact ever_bl _)⟩
theorem sc_eqB {i j : Bool} : Sc2 K (rEqU K) (.bool i) (.bool j) (.bool (decide (i = j))) := Sc2.fst fun H x y a b Q q => by
  rw [dp_bl a, dp_bl b]; exact ⟨rfl, q _ (by rw [show decide (V.bl i = V.bl j) = decide (i = j) by simp]; exact ever_bl _)⟩
def isNoneD : PyData → Bool
  | .none => true
  | _ => false
theorem sc_isN : Sc2 K (fun x y H Q => y = .non ∧ Q (.bl (decide (x = .non))) H) d .none (.bool (isNoneD d)) := fun H x y a b Q q => ⟨dp_non b, by
  have e : decide (x = V.non) = isNoneD d := by cases a <;> simp [isNoneD]
  rw [e]; exact q _ (ever_bl _)⟩
theorem sc_notN : Sc2 K (fun x y H Q => y = .non ∧ Q (.bl (!decide (x = .non))) H) d .none (.bool (!isNoneD d)) := fun H x y a b Q q => ⟨dp_non b, by
  have e : decide (x = V.non) = isNoneD d := by cases a <;> simp [isNoneD]
  rw [e]; exact q _ (ever_bl _)⟩
theorem ev_neg (ha : Ev K B ta E (.z (.int i)) E1) : Ev K B (tUn (rU fun i => .int (-i)) ta) E (.z (.int (-i))) E1 := ev_un ha .z fun H x h Q q => ⟨i, dp_int h, q _ (ever_int _)⟩

/-! ### truth -/
def tTr (K : PySem.W.Frag) (ta : TE) : TT := fun σ H Q => ta σ H fun x H' => ∃ k, TruV K x H' k ∧ Q k H'
theorem pt_tr {X : Cx} {a : Expr} {ta : TE} (ha : PE X a ta) (he : ∀ whole, isTrue a X.env whole = (do let v ← whole; standAt a.pos; holding [v] (truthy v)) := by intro _; rfl) : PT X a (tTr X.K ta) := pt_truth ha he
inductive TrO (E : En) : OE → Bool → Prop
  | non : TrO E (.z .none) false
  | bl {b : Bool} : TrO E (.z (.bool b)) b
  | int {i : Int} : TrO E (.z (.int i)) (i != 0)
  | str {w : Str} (h : w.length ≤ 100000) : TrO E (.z (.str w)) ((w.length : Int) != 0)
  | tup {ds : List PyData} : TrO E (.z (.tuple ds)) (!ds.isEmpty)
  | lst {x : OE} {xs : List OE} (h : SqO E x xs) : TrO E x (!xs.isEmpty)
theorem paired_emp {α β : Type} {F : α → β → Prop} {xs : List α} {ys : List β} (h : Paired F xs ys) : (!xs.isEmpty) = !ys.isEmpty := by cases h <;> rfl
theorem et_tr (h : Ev K B te E x E1) (ht : TrO E1 x b) : EvT K B (tTr K te) E b E1 := fun σ s ρ S Q q => h σ s ρ S _ fun v s1 ρ1 T1 S1 o1 => by
  refine ⟨b, ?_, q s1 ρ1 T1 S1⟩
  cases ht with
  | non => rw [dp_non o1]; rfl
  | bl => rw [dp_bl o1]; rfl
  | int => rw [dp_int o1]; rfl
  | str hz => rw [dp_str o1]; exact ⟨Nat.le_trans hz (by decide), rfl⟩
  | tup =>
    obtain ⟨a, vs, rfl, hl, hp⟩ := tq_dp o1
    refine .inr (.inl ⟨vs, hl, ?_⟩)
    rw [← paired_emp hp]; cases ‹List PyData› <;> rfl
  | lst hz =>
    obtain ⟨a, vs, rfl, hl, hp⟩ := sq_dp S1 hz o1
    exact .inl ⟨vs, hl, paired_emp hp⟩

/-! ### built-ins -/
def nameD : PyData → String
  | .none => "NoneType"
  | .bool _ => "bool"
  | .int _ => "int"
  | .str _ => "str"
  | .list _ => "list"
  | .tuple _ => "tuple"
  | .dict _ => "dict"
theorem tyx_d {H : Hp} {v : V} (h : Dp K H v d) : TyX K H v (.type (nameD d)) := by
  cases h with
  | non => exact .base .non
  | bl b => exact .base (.bl b)
  | int i => exact .base (.int i)
  | str i => exact .base (.str i)
  | lst hs _ =>
    rcases hs with (hs | ⟨o, hs⟩) | ⟨o, its, n, h1, h2, _⟩
    · exact .base (.lst hs)
    · exact .base (.frz hs)
    · exact .kList h1 h2
  | tup hs _ =>
    rcases hs with (hs | ⟨o, hs⟩) | ⟨o, its, n, h1, h2, _⟩
    · exact .base (.tup hs)
    · exact .fTuple hs
    · exact .kTuple h1 h2
/-- isinstance(x, T), T a built-in class -/
theorem ev_isi {T : String} (ha : Ev K B ta E x E1) (h1 : RdO E1 x d) (hb : kitB (nameD d) T = some b) : Ev K B (tCB (rIsi K) (tCons ta (tCons (tC (.ty T)) tNil))) E (.z (.bool b)) E1 := fun σ s ρ S Q q =>
  ha σ s ρ S _ fun v s1 ρ1 T1 S1 o1 => ⟨v, .ty T, _, _, b, rfl, .ty T, tyx_d (rd_dp S1 h1 o1), kit_ty hb, q _ s1 ρ1 T1 S1 (ever_bl _ _)⟩
def isD (T : String) (d : PyData) : Bool := nameD d == T || (T == "int" && nameD d == "bool")
def kitAll (T : String) : Bool := ["NoneType", "bool", "int", "str", "list", "tuple", "dict"].all fun n => kitB n T == some (n == T || (T == "int" && n == "bool"))
theorem kit_of_all {T : String} (h : kitAll T = true) (d : PyData) : kitB (nameD d) T = some (isD T d) := by
  unfold kitAll at h
  have m : nameD d ∈ ["NoneType", "bool", "int", "str", "list", "tuple", "dict"] := by cases d <;> simp [nameD]
  exact eq_of_beq (List.all_eq_true.mp h _ m)
theorem kit_int (d : PyData) : kitB (nameD d) "int" = some (isD "int" d) := kit_of_all (by decide +kernel) d
theorem kit_bool (d : PyData) : kitB (nameD d) "bool" = some (isD "bool" d) := kit_of_all (by decide +kernel) d
theorem kit_str (d : PyData) : kitB (nameD d) "str" = some (isD "str" d) := kit_of_all (by decide +kernel) d
theorem kit_list (d : PyData) : kitB (nameD d) "list" = some (isD "list" d) := kit_of_all (by decide +kernel) d
theorem kit_tuple (d : PyData) : kitB (nameD d) "tuple" = some (isD "tuple" d) := kit_of_all (by decide +kernel) d
theorem kit_dict (d : PyData) : kitB (nameD d) "dict" = some (isD "dict" d) := kit_of_all (by decide +kernel) d
abbrev rInt : List V → Hp → VK → Prop := fun xs H Q => (∃ i, xs = [V.int i] ∧ Q (.int i) H) ∨ ∃ k, xs = [V.bl k] ∧ Q (.int (if k then 1 else 0)) H
theorem sc_int : ScC K rInt [.int i] (.int i) := fun H vs h Q q => by
  obtain ⟨v, rfl, hv⟩ := dps1 h
  exact .inl ⟨i, by rw [dp_int hv], q _ (ever_int _)⟩
theorem sc_intB : ScC K rInt [.bool b] (.int (if b then 1 else 0)) := fun H vs h Q q => by
  obtain ⟨v, rfl, hv⟩ := dps1 h
  exact .inr ⟨b, by rw [dp_bl hv], q _ (ever_int _)⟩
abbrev rAbs : List V → Hp → VK → Prop := fun xs H Q => ∃ i, xs = [V.int i] ∧ Q (.int (if i < 0 then -i else i)) H
theorem sc_abs : ScC K rAbs [.int i] (.int (if i < 0 then -i else i)) := fun H vs h Q q => by
  obtain ⟨v, rfl, hv⟩ := dps1 h
  exact ⟨i, by rw [dp_int hv], q _ (ever_int _)⟩
abbrev rLenSq (K : PySem.W.Frag) : List V → Hp → VK → Prop := fun xs H Q => ∃ p ys, xs = [V.ref p] ∧ (SqL K H p ys ∨ SqT K H p ys) ∧ Q (.int ys.length) H
abbrev rLenStr : List V → Hp → VK → Prop := fun xs H Q => ∃ z, xs = [V.str z] ∧ z.length ≤ sizeLine ∧ Q (.int z.length) H
abbrev rLenU (K : PySem.W.Frag) : List V → Hp → VK → Prop := rcOr (rLenSq K) rLenStr
theorem call_lenU {X : Cx} : CallR X (.builtin "len") (rLenU X.K) := callr_or call_len_seq call_len_str
theorem ev_lenL (ha : Ev K B ta E x E1) (h : SqO E1 x xs) : Ev K B (tCB (rLenU K) (tCons ta tNil)) E (.z (.int xs.length)) E1 := fun σ s ρ S Q q =>
  ha σ s ρ S _ fun v s1 ρ1 T1 S1 o1 => by
    obtain ⟨a, vs, rfl, hl, hp⟩ := sq_dp S1 h o1
    exact .inl ⟨a, vs, rfl, .inl hl, q _ s1 ρ1 T1 S1 (by rw [paired_len hp]; exact ever_int _ _)⟩
theorem ev_lenT {ds : List PyData} (ha : Ev K B ta E (.z (.tuple ds)) E1) : Ev K B (tCB (rLenU K) (tCons ta tNil)) E (.z (.int ds.length)) E1 := fun σ s ρ S Q q =>
  ha σ s ρ S _ fun v s1 ρ1 T1 S1 o1 => by
    obtain ⟨a, vs, rfl, hl, hp⟩ := tq_dp o1
    exact .inl ⟨a, vs, rfl, .inr hl, q _ s1 ρ1 T1 S1 (by rw [← paired_len hp, List.length_map]; exact ever_int _ _)⟩
theorem ev_lenS {w : Str} (ha : Ev K B ta E (.z (.str w)) E1) (h : w.length ≤ 100000) : Ev K B (tCB (rLenU K) (tCons ta tNil)) E (.z (.int w.length)) E1 := fun σ s ρ S Q q =>
  ha σ s ρ S _ fun v s1 ρ1 T1 S1 o1 => .inr ⟨w, by rw [dp_str o1], Nat.le_trans h (by decide), q _ s1 ρ1 T1 S1 (ever_int _ _)⟩
abbrev rMin2 : List V → Hp → VK → Prop := fun xs H Q => ∃ i j, xs = [V.int i, V.int j] ∧ Q (.int (if j < i then j else i)) H
abbrev rMax2 : List V → Hp → VK → Prop := fun xs H Q => ∃ i j, xs = [V.int i, V.int j] ∧ Q (.int (if j > i then j else i)) H
theorem sc_min2 : ScC K rMin2 [.int i, .int j] (.int (min i j)) := fun H vs h Q q => by
  obtain ⟨v, w, rfl, h1, h2⟩ := dps2 h
  have e : (if j < i then j else i) = min i j := by rw [Int.min_def]; split <;> split <;> omega
  exact ⟨i, j, by rw [dp_int h1, dp_int h2], by rw [e]; exact q _ (ever_int _)⟩
theorem sc_max2 : ScC K rMax2 [.int i, .int j] (.int (max i j)) := fun H vs h Q q => by
  obtain ⟨v, w, rfl, h1, h2⟩ := dps2 h
  have e : (if j > i then j else i) = max i j := by rw [Int.max_def]; split <;> split <;> omega
  exact ⟨i, j, by rw [dp_int h1, dp_int h2], by rw [e]; exact q _ (ever_int _)⟩
end

/-! ### where a def stands -/
/-- x is a def of the module that keeps F, by at most level k -/
structure Has (P : Program) (w : World) (K : PySem.W.Frag) (mg : Str → Option Value) (base : Heap) (CX : CXT) (k : Nat) (x : Str) (ps : List Str) (F : DSp) : Prop where
  ex : ∃ f fd, FnOk P w K mg base CX k f fd ps (spD K ps.length F) ∧ mg x = some (.ref f) ∧ PySem.W.keepIn K (.ref f) = true ∧ Binds K fd ps []
theorem Has.mono {P : Program} {w : World} {K : PySem.W.Frag} {mg : Str → Option Value} {base : Heap} {CX : CXT} {j k : Nat} {x : Str} {ps : List Str} {F : DSp} (h : Has P w K mg base CX j x ps F) (l : j ≤ k) : Has P w K mg base CX k x ps F := by
  obtain ⟨f, fd, h1, h2⟩ := h.ex
  exact ⟨f, fd, h1.mono l, h2⟩
section
variable {X : Cx} {x : Str} {p pos : Pos} {e : Expr} {es : List Expr} {ta : TA} {k : Nat} {ps : List Str} {F : DSp} {CX : CXT} {E : XK}
theorem pe_has {n : Nat} (h : Has X.prog X.w X.K X.mg X.base CX k x ps F) (hr : Room k X.A) (hx : Passes CX X E) (hg : Gl X x) (ha : PA X (e :: es) ta) (hd : (x == ("__debug__" : Str)) = false)
    (he : starEach (e :: es) X.env = (false, eval e X.env) :: starEach es X.env := by rfl) (hpl : (backTo pos (starEach es X.env)).any (·.1) = false := by rfl) (hn : ps.length = n := by rfl) : PE X (.Call (.Name x p) (e :: es) [] pos) (tCall (spD X.K n F) [] E ta) := by
  subst hn
  obtain ⟨f, fd, G, h1, h2, h3⟩ := h.ex
  exact pe_call G hr hg h1 h2 h3 .nil hx ha hd he hpl
theorem pe_has0 {n : Nat} (h : Has X.prog X.w X.K X.mg X.base CX k x ps F) (hr : Room k X.A) (hx : Passes CX X E) (hg : Gl X x) (hd : (x == ("__debug__" : Str)) = false) (hn : ps.length = n := by rfl) : PE X (.Call (.Name x p) [] [] pos) (tCall (spD X.K n F) [] E tNil) := by
  subst hn
  obtain ⟨f, fd, G, h1, h2, h3⟩ := h.ex
  exact pe_call0 G hr hg h1 h2 h3 .nil hx hd
/-- a module's constant -/
theorem pe_ci {i : Int} (h : ∃ t, X.mg x = some (.int i t)) (hg : Gl X x) (hd : (x == ("__debug__" : Str)) = false := by decide) : PE X (.Name x p) (tC (.int i)) := by
  obtain ⟨t, h⟩ := h
  exact pe_glob hg h ⟨t, rfl⟩ hd
theorem pe_cs {i : Str} (h : ∃ t, X.mg x = some (.str i t)) (hg : Gl X x) (hd : (x == ("__debug__" : Str)) = false := by decide) : PE X (.Name x p) (tC (.str i)) := by
  obtain ⟨t, h⟩ := h
  exact pe_glob hg h ⟨t, rfl⟩ hd
end
end Y

/-! Y6: names of readings; the module's built-ins; steps by themselves -/
namespace Y
open PySem L2 PyProof.Rows
abbrev rSubI : R2 := rI0 fun i j => .int (i - j)
abbrev rModI : R2 := rI (fun _ j => 0 < j) fun i j => .int (i % j)
abbrev rDivI : R2 := rI CDivW fun i j => .int (i / j)
abbrev rPowI : R2 := rI CPow fun i j => .int (i ^ j.toNat)
abbrev rLeI : R2 := rI0 fun i j => .bl (decide (i ≤ j))
abbrev rGtI : R2 := rI0 fun i j => .bl (decide (j < i))
abbrev rGeI : R2 := rI0 fun i j => .bl (decide (j ≤ i))
abbrev rNegI : V → Hp → VK → Prop := rU fun i => .int (-i)
abbrev rIsNo : R2 := fun x y H Q => y = V.non ∧ Q (.bl (decide (x = .non))) H
abbrev rIsNotNo : R2 := fun x y H Q => y = V.non ∧ Q (.bl (!decide (x = .non))) H
abbrev rListOf (K : PySem.W.Frag) : List V → Hp → VK → Prop := fun xs H Q => ∃ p ys, xs = [V.ref p] ∧ (SqL K H p ys ∨ SqT K H p ys) ∧ ∀ l, H l = none → Q (.ref l) (upd H l (.lst ys))
abbrev rTupleOf (K : PySem.W.Frag) : List V → Hp → VK → Prop := fun xs H Q => ∃ p ys, xs = [V.ref p] ∧ ((SqL K H p ys ∧ ∀ l, H l = none → Q (.ref l) (upd H l (.tup ys))) ∨ (SqT K H p ys ∧ Q (.ref p) H))
structure Bn (mg : Str → Option Value) : Prop where
  b_abs : mg "abs" = none
  b_all : mg "all" = none
  b_any : mg "any" = none
  b_dict : mg "dict" = none
  b_enumerate : mg "enumerate" = none
  b_int : mg "int" = none
  b_bool : mg "bool" = none
  b_isinstance : mg "isinstance" = none
  b_len : mg "len" = none
  b_list : mg "list" = none
  b_max : mg "max" = none
  b_min : mg "min" = none
  b_range : mg "range" = none
  b_repr : mg "repr" = none
  b_reversed : mg "reversed" = none
  b_set : mg "set" = none
  b_sorted : mg "sorted" = none
  b_str : mg "str" = none
  b_sum : mg "sum" = none
  b_tuple : mg "tuple" = none
  b_zip : mg "zip" = none
section
variable {K : PySem.W.Frag} {B : Bs} {E E1 E2 E3 : En} {ta tb tc te : TE} {t u : TT} {x y z : OE} {d d1 d2 : PyData} {r r' : R2} {xs ys : List OE} {ar : TA} {b c : Bool} {i j : Int} {D : Dn}
theorem ev_int1 (ha : Ev K B ta E (.z (.int i)) E1) : Ev K B (tCB rInt (tCons ta tNil)) E (.z (.int i)) E1 := ev_cb (ea_cons ha ea_nil) (.cons .z .nil) sc_int
theorem ev_intB (ha : Ev K B ta E (.z (.bool b)) E1) : Ev K B (tCB rInt (tCons ta tNil)) E (.z (.int (if b then 1 else 0))) E1 := ev_cb (ea_cons ha ea_nil) (.cons .z .nil) sc_intB
theorem ev_abs (ha : Ev K B ta E (.z (.int i)) E1) : Ev K B (tCB rAbs (tCons ta tNil)) E (.z (.int (if i < 0 then -i else i))) E1 := ev_cb (ea_cons ha ea_nil) (.cons .z .nil) sc_abs
theorem ev_min2 (ha : Ev K B ta E (.z (.int i)) E1) (hb : Ev K B tb E1 (.z (.int j)) E2) : Ev K B (tCB rMin2 (tCons ta (tCons tb tNil))) E (.z (.int (min i j))) E2 := ev_cb (ea_cons ha (ea_cons hb ea_nil)) (.cons .z (.cons .z .nil)) sc_min2
theorem ev_max2 (ha : Ev K B ta E (.z (.int i)) E1) (hb : Ev K B tb E1 (.z (.int j)) E2) : Ev K B (tCB rMax2 (tCons ta (tCons tb tNil))) E (.z (.int (max i j))) E2 := ev_cb (ea_cons ha (ea_cons hb ea_nil)) (.cons .z (.cons .z .nil)) sc_max2
theorem w_iff {t1 t2 : TS} {p : Prop} {ip : Decidable p} (h : EvT K B t E (decide p) E1) (k1 : p → W K B t1 E1 D) (k2 : ¬ p → W K B t2 E1 D) : W K B (tIfS t t1 t2) E D :=
  w_if h (fun e => k1 (of_decide_eq_true e)) (fun e => k2 (of_decide_eq_false e))
theorem ev_c1 {F : DSp} {E0 : XK} (ha : Ev K B ta E (.z d1) E1) (hF : ∀ (Φ : OE → List OD → Prop) (Ψ : Value → Xf → List OD → Prop), Φ (.z d) [] → F [.z d1] [] Φ Ψ) : Ev K B (tCall (spD K 1 F) [] E0 (tCons ta tNil)) E (.z d) E1 :=
  ev_call0 (n := 1) (ds := [d1]) rfl (ea_cons ha ea_nil) hF
theorem ev_c2 {F : DSp} {E0 : XK} (ha : Ev K B ta E (.z d1) E1) (hb : Ev K B tb E1 (.z d2) E2) (hF : ∀ (Φ : OE → List OD → Prop) (Ψ : Value → Xf → List OD → Prop), Φ (.z d) [] → F [.z d1, .z d2] [] Φ Ψ) : Ev K B (tCall (spD K 2 F) [] E0 (tCons ta (tCons tb tNil))) E (.z d) E2 :=
  ev_call0 (n := 2) (ds := [d1, d2]) rfl (ea_cons ha (ea_cons hb ea_nil)) hF
theorem ev_c3 {F : DSp} {E0 : XK} {d3 : PyData} (ha : Ev K B ta E (.z d1) E1) (hb : Ev K B tb E1 (.z d2) E2) (hc : Ev K B tc E2 (.z d3) E3) (hF : ∀ (Φ : OE → List OD → Prop) (Ψ : Value → Xf → List OD → Prop), Φ (.z d) [] → F [.z d1, .z d2, .z d3] [] Φ Ψ) : Ev K B (tCall (spD K 3 F) [] E0 (tCons ta (tCons tb (tCons tc tNil)))) E (.z d) E3 :=
  ev_call0 (n := 3) (ds := [d1, d2, d3]) rfl (ea_cons ha (ea_cons hb (ea_cons hc ea_nil))) hF
theorem w_yes {t1 t2 : TS} (h : EvT K B t E true E1) (k : W K B t1 E1 D) : W K B (tIfS t t1 t2) E D := w_if h (fun _ => k) (fun e => nomatch e)
theorem w_no {t1 t2 : TS} (h : EvT K B t E false E1) (k : W K B t2 E1 D) : W K B (tIfS t t1 t2) E D := w_if h (fun e => nomatch e) (fun _ => k)
/-- a word between two statements -/
theorem w_mid {t1 t2 : TS} (M : En → Prop) (h1 : W K B t1 E { D with nx := M }) (h2 : ∀ E', M E' → W K B t2 E' D) : W K B (tSeq t1 t2) E D := w_seq fun σ s ρ D0 S C =>
  h1 σ s ρ D0 S ⟨fun σ' s' ρ' E' S' m => C.nx σ' s' ρ' E' S' (h2 E' m), C.rt, C.bk, C.ct⟩
end
/-- the law's own end -/
theorem dp_ints {K : PySem.W.Frag} {H : Hp} : ∀ ns : List Int, DpAll K H (ns.map V.int) (ns.map PyData.int)
  | [] => .nil
  | n :: ns => .cons (.int n) (dp_ints ns)
theorem law_sp {K : PySem.W.Frag} {F : DSp} {H : Hp} {a : Addr} {ns : List Int} (h : SqL K H a (ns.map V.int)) (hF : ∀ Φ Ψ, Φ (.z (.bool true)) [] → F [.z (.list (ns.map .int))] [] Φ Ψ) : spD K 1 F [.ref a] H (fun v _ => v = .bl true) fun _ _ _ => False :=
  ⟨rfl, ⟨H, H, fun _ _ z => z⟩, [], [.z (.list (ns.map .int))], [], rfl, ⟨rfl, List.nodup_nil, fun i a e => by simp at e, fun i a o e => by simp at e⟩, .cons (.lst h (dp_ints ns)) .nil, hF _ _ fun v s' ρ' _ _ o => dp_bl o⟩
theorem Has.of {P : Program} {w : World} {K : PySem.W.Frag} {mg : Str → Option Value} {base : Heap} {CX : CXT} {k : Nat} {x : Str} {ps : List Str} {F : DSp} {f : Addr} {fd : FuncData} (h : FnOk P w K mg base CX k f fd ps (spD K ps.length F)) (m : mg x = some (.ref f)) (kp : PySem.W.keepIn K (.ref f) = true) (b : Binds K fd ps []) : Has P w K mg base CX k x ps F := ⟨f, fd, h, m, kp, b⟩
end Y

namespace T
open PySem L2 PyProof.Rows Y
local macro_rules | `(tactic| walk_at "yside") => `(tactic| first | assumption | decide | omega | (simp; omega) | (simp; done))
local macro_rules | `(tactic| walk_at "ysc") => `(tactic| with_reducible first
  | exact sc_add | exact sc_sub | exact sc_lt | exact sc_le | exact sc_gt | exact sc_ge | exact sc_eq | exact sc_ne | exact sc_eqS | exact sc_neS | exact sc_eqB | exact sc_isN | exact sc_notN
  | (refine sc_mod ?_; with_unfolding_all walk_at "yside") | (refine sc_div ?_ ?_ <;> with_unfolding_all walk_at "yside") | (refine sc_mul ?_; with_unfolding_all walk_at "yside") | (refine sc_pow ?_; with_unfolding_all walk_at "yside") | (refine sc_addS ?_; with_unfolding_all walk_at "yside"))
local macro_rules | `(tactic| walk_at "yrd") => `(tactic| first | exact RdO.z | (refine RdO.r ?_; rfl))
local macro_rules | `(tactic| walk_at "ycall") => `(tactic| fail "no rule for this call")
local macro_rules | `(tactic| walk_at "yev") => `(tactic| first
  | with_reducible exact ev_int | with_reducible exact ev_str | with_reducible exact ev_bl | with_reducible exact ev_non
  | ((with_reducible refine' ev_var ?h); (case h => rfl))
  | ((with_reducible refine' ev_op ?ha ?hb ?h1 ?h2 ?hr); (case ha => walk_at "yev"); (case hb => walk_at "yev"); (case h1 => walk_at "yrd"); (case h2 => walk_at "yrd"); (case hr => walk_at "ysc"))
  | ((with_reducible refine' ev_neg ?ha); (case ha => walk_at "yev"))
  | ((with_reducible refine' ev_isi ?ha ?h1 ?hb); (case ha => walk_at "yev"); (case h1 => walk_at "yrd"); (case hb => first | exact kit_int _ | exact kit_bool _ | exact kit_str _ | exact kit_list _ | exact kit_tuple _ | exact kit_dict _))
  | ((with_reducible refine' ev_int1 ?ha); (case ha => walk_at "yev"))
  | ((with_reducible refine' ev_intB ?ha); (case ha => walk_at "yev"))
  | ((with_reducible refine' ev_abs ?ha); (case ha => walk_at "yev"))
  | ((with_reducible refine' ev_min2 ?ha ?hb); (case ha => walk_at "yev"); (case hb => walk_at "yev"))
  | ((with_reducible refine' ev_max2 ?ha ?hb); (case ha => walk_at "yev"); (case hb => walk_at "yev"))
  | ((with_reducible refine' ev_lenL ?ha ?h); (case ha => walk_at "yev"); (case h => first | exact SqO.z | (refine SqO.r ?_; rfl)))
  | ((with_reducible refine' ev_lenT ?ha); (case ha => walk_at "yev"))
  | ((with_reducible refine' ev_andV ?ha ?hb ?hc); (case ha => walk_at "yev"); (case hb => intro _; walk_at "yev"); (case hc => intro _; rfl))
  | ((with_reducible refine' ev_orV ?ha ?hb ?hc); (case ha => walk_at "yev"); (case hb => intro _; walk_at "yev"); (case hc => intro _; rfl))
  | ((with_reducible refine' ev_notV ?ha); (case ha => walk_at "yev"))
  | ((with_reducible refine' ev_chain ?ha ?hb ?h1 ?h2 ?hr ?hc ?h3 ?h4 ?hs ?h5); (case ha => walk_at "yev"); (case hb => walk_at "yev"); (case h1 => walk_at "yrd"); (case h2 => walk_at "yrd"); (case hr => walk_at "ysc"); (case hc => intro _; walk_at "yev"); (case h3 => intro _; walk_at "yrd"); (case h4 => intro _; walk_at "yrd"); (case hs => intro _; walk_at "ysc"); (case h5 => intro _; rfl))
  | walk_at "ycall")
local macro_rules | `(tactic| walk_at "yea") => `(tactic| first
  | with_reducible exact ea_nil
  | ((with_reducible refine' ea_cons ?ha ?hb); (case ha => walk_at "yev"); (case hb => walk_at "yea")))
local macro_rules | `(tactic| walk_at "yet") => `(tactic| first
  | ((with_reducible refine' et_test ?h); (case h => walk_at "yev"))
  | ((with_reducible refine' et_B ?h); (case h => walk_at "yev"))
  | ((with_reducible refine' et_not ?h); (case h => walk_at "yet"))
  | ((with_reducible refine' et_and ?ha ?hb ?hc); (case ha => walk_at "yet"); (case hb => intro _; walk_at "yet"); (case hc => intro _; rfl))
  | ((with_reducible refine' et_or ?ha ?hb ?hc); (case ha => walk_at "yet"); (case hb => intro _; walk_at "yet"); (case hc => intro _; rfl)))
local macro_rules | `(tactic| walk_at "yw") => `(tactic| first
  | ((with_reducible refine' w_seq ?_); walk_at "yw")
  | ((with_reducible refine' w_asg ?h ?_); (case h => walk_at "yev"); (show W _ _ _ _ _); dsimp only [List.set]; (try walk_at "yw"))
  | ((with_reducible refine' w_iff ?h ?_ ?_); (case h => walk_at "yet"))
  | ((with_reducible refine' w_if ?h ?_ ?_); (case h => walk_at "yet"))
  | ((with_reducible refine' w_ret ?h ?_); (case h => walk_at "yev"))
  | ((with_reducible refine' w_drop ?h ?_); (case h => walk_at "yev"); (show W _ _ _ _ _); (try walk_at "yw"))
  | ((with_reducible refine' w_next ?_); (show W _ _ _ _ _); (try walk_at "yw")))
def top (i : Nat) : Stmt := PySem.Challenge.pw_selfloom_k50_wrapped_operations.main.body.getD i (.Pass ⟨0, 0, 0, 0⟩)
abbrev s_wrap : Stmt := top 3
abbrev s_operate : Stmt := top 4
abbrev s__law_cell : Stmt := top 6
abbrev s__law_integer : Stmt := top 7
abbrev s__law_wrapped : Stmt := top 8
abbrev s__law_exactly : Stmt := top 9
abbrev s_law : Stmt := top 10
structure Cn (K : PySem.W.Frag) (mg : Str → Option Value) : Prop where
  z : True := trivial
  c_HALF : ∃ t, mg "HALF" = some (.int 2147483648 t)
  c_WHOLE : ∃ t, mg "WHOLE" = some (.int 4294967296 t)
section
variable {P : Program} {w : World} {K : PySem.W.Frag} {mg : Str → Option Value} {base : Heap}
theorem sc_wrap : FnScope ["number"] ["number"] (defScope s_wrap) := ⟨rfl, rfl, rfl, by decide +kernel, rfl, by decide +kernel, by decide +kernel⟩
theorem sc_operate : FnScope ["name", "a", "b"] ["name", "a", "b"] (defScope s_operate) := ⟨rfl, rfl, rfl, by decide +kernel, rfl, by decide +kernel, by decide +kernel⟩
theorem sc__law_cell : FnScope ["script", "k"] ["script", "k"] (defScope s__law_cell) := ⟨rfl, rfl, rfl, by decide +kernel, rfl, by decide +kernel, by decide +kernel⟩
theorem sc__law_integer : FnScope ["script", "k", "number", "kind"] ["script", "k"] (defScope s__law_integer) := ⟨rfl, rfl, rfl, by decide +kernel, rfl, by decide +kernel, by decide +kernel⟩
theorem sc__law_wrapped : FnScope ["actual", "number"] ["actual", "number"] (defScope s__law_wrapped) := ⟨rfl, rfl, rfl, by decide +kernel, rfl, by decide +kernel, by decide +kernel⟩
theorem sc__law_exactly : FnScope ["actual", "due"] ["actual", "due"] (defScope s__law_exactly) := ⟨rfl, rfl, rfl, by decide +kernel, rfl, by decide +kernel, by decide +kernel⟩
theorem sc_law : FnScope ["script", "first", "second", "a", "b"] ["script"] (defScope s_law) := ⟨rfl, rfl, rfl, by decide +kernel, rfl, by decide +kernel, by decide +kernel⟩
/-- what the body of wrap does, and that it does -/
def t_wrap (K : PySem.W.Frag)  : TS :=
  (tRet (tOp rSubI (tOp rModI (tOp (rAddU K) (tVar 0) (tC (.int 2147483648))) (tC (.int 4294967296))) (tC (.int 2147483648))))
theorem d_wrap (bn : Bn mg) (C : Cn K mg) {k : Nat} {f : Addr} {cdv : Value} {A : Around} {outer : List Env} {s : Shared} {H : Hp} {E : XK} (hr : Room k (A.deeper (PyProof.Rows.envOfC "wrap" (defScope s_wrap) s.heap.objs.size f cdv)))
    : PSs (cxOf CX0 P w K mg base ["number"] "wrap" (defScope s_wrap) f cdv A outer s H E).nox (defBody s_wrap) (t_wrap K) :=
  (pss_one (ps_ret (pe_op op_sub (pe_op op_mod (pe_op op_addU (pv 0) (pe_ci C.c_HALF rfl)) (pe_ci C.c_WHOLE rfl)) (pe_ci C.c_HALF rfl))))
/-- what the body of operate does, and that it does -/
def t_operate (K : PySem.W.Frag) (F_wrap : DSp) : TS :=
  (tSeq (tIfS (tTest (tOp (rEqU K) (tVar 0) (tC (.str "add"))))
          (tRet (tCall (spD K 1 F_wrap) [] E0 (tCons (tOp (rAddU K) (tVar 1) (tVar 2)) tNil)))
          tNext)
      (tSeq (tIfS (tTest (tOp (rEqU K) (tVar 0) (tC (.str "sub"))))
          (tRet (tCall (spD K 1 F_wrap) [] E0 (tCons (tOp rSubI (tVar 1) (tVar 2)) tNil)))
          tNext)
      (tSeq (tIfS (tTest (tOp (rEqU K) (tVar 0) (tC (.str "mul"))))
          (tRet (tCall (spD K 1 F_wrap) [] E0 (tCons (tOp rMulU (tVar 1) (tVar 2)) tNil)))
          tNext)
      (tSeq (tIfS (tTest (tOp (rEqU K) (tVar 0) (tC (.str "less"))))
          (tRet (tCB rInt (tCons (tOp rLtU (tVar 1) (tVar 2)) tNil)))
          tNext)
      (tRet (tCB rInt (tCons (tOp (rEqU K) (tVar 1) (tVar 2)) tNil)))))))
theorem d_operate (bn : Bn mg) (C : Cn K mg) {k : Nat} {f : Addr} {cdv : Value} {A : Around} {outer : List Env} {s : Shared} {H : Hp} {E : XK} (hr : Room k (A.deeper (PyProof.Rows.envOfC "operate" (defScope s_operate) s.heap.objs.size f cdv)))
    {k_wrap : Nat} {F_wrap : DSp} (h_wrap : Has P w K mg base CX0 k_wrap "wrap" ["number"] F_wrap) (l_wrap : k_wrap ≤ k)
    : PSs (cxOf CX0 P w K mg base ["name", "a", "b"] "operate" (defScope s_operate) f cdv A outer s H E).nox (defBody s_operate) (t_operate K F_wrap) :=
  (pss_cons (ps_if (pt_cmpR (op_eqU hr.units) (pv 0) pe_str (nomark _))
          (pss_one (ps_ret (pe_has h_wrap (hr.mono (by omega)) pass0 rfl (pa_cons (pe_op op_addU (pv 1) (pv 2)) pa_nil) (by decide))))
          pss_nil)
      (pss_cons (ps_if (pt_cmpR (op_eqU hr.units) (pv 0) pe_str (nomark _))
          (pss_one (ps_ret (pe_has h_wrap (hr.mono (by omega)) pass0 rfl (pa_cons (pe_op op_sub (pv 1) (pv 2)) pa_nil) (by decide))))
          pss_nil)
      (pss_cons (ps_if (pt_cmpR (op_eqU hr.units) (pv 0) pe_str (nomark _))
          (pss_one (ps_ret (pe_has h_wrap (hr.mono (by omega)) pass0 rfl (pa_cons (pe_op op_mulU (pv 1) (pv 2)) pa_nil) (by decide))))
          pss_nil)
      (pss_cons (ps_if (pt_cmpR (op_eqU hr.units) (pv 0) pe_str (nomark _))
          (pss_one (ps_ret (pe_callTy call_int1 (by rfl) bn.b_int boot_int (pa_cons (pe_cmpR op_ltU (pv 1) (pv 2) (nomark _)) pa_nil))))
          pss_nil)
      (pss_one (ps_ret (pe_callTy call_int1 (by rfl) bn.b_int boot_int (pa_cons (pe_cmpR (op_eqU hr.units) (pv 1) (pv 2) (nomark _)) pa_nil))))))))
/-- what the body of _law_cell does, and that it does -/
def t__law_cell (K : PySem.W.Frag)  : TS :=
  (tSeq (tIfS (tTest (tOp rLtU (tVar 1) (tCB (rLenU K) (tCons (tVar 0) tNil))))
          (tRet (tOp (rIx K) (tVar 0) (tVar 1)))
          tNext)
      (tRet (tC (.int 0))))
theorem d__law_cell (bn : Bn mg) (C : Cn K mg) {k : Nat} {f : Addr} {cdv : Value} {A : Around} {outer : List Env} {s : Shared} {H : Hp} {E : XK} (hr : Room k (A.deeper (PyProof.Rows.envOfC "_law_cell" (defScope s__law_cell) s.heap.objs.size f cdv)))
    : PSs (cxOf CX0 P w K mg base ["script", "k"] "_law_cell" (defScope s__law_cell) f cdv A outer s H E).nox (defBody s__law_cell) (t__law_cell K) :=
  (pss_cons (ps_if (pt_cmpR op_ltU (pv 1) (pe_callB call_lenU (by rfl) bn.b_len boot_len (pa_cons (pv 0) pa_nil)) (nomark _))
          (pss_one (ps_ret (pe_ix ix_seq (pv 0) (pv 1) (fun _ _ => rfl))))
          pss_nil)
      (pss_one (ps_ret pe_int)))
/-- what the body of _law_integer does, and that it does -/
def t__law_integer (K : PySem.W.Frag) (F__law_cell : DSp) : TS :=
  (tSeq (tAsg (tCall (spD K 2 F__law_cell) [] E0 (tCons (tVar 0) (tCons (tVar 1) tNil))) (gName 2))
      (tSeq (tAsg (tOp rModI (tCB rInt (tCons (tCall (spD K 2 F__law_cell) [] E0 (tCons (tVar 0) (tCons (tOp (rAddU K) (tVar 1) (tC (.int 1))) tNil))) tNil)) (tC (.int 5))) (gName 3))
      (tSeq (tIfS (tTest (tOp (rEqU K) (tVar 3) (tC (.int 1))))
          (tRet (tOp rSubI (tOp (rAddU K) (tOp rMulU (tC (.int 2147483648)) (tOp rSubI (tOp rModI (tCB rInt (tCons (tVar 2) tNil)) (tC (.int 9))) (tC (.int 4)))) (tOp rModI (tCB rInt (tCons (tOp rDivI (tVar 2) (tC (.int 9))) tNil)) (tC (.int 3)))) (tC (.int 1))))
          tNext)
      (tSeq (tIfS (tTest (tOp (rEqU K) (tVar 3) (tC (.int 2))))
          (tRet (tOp rSubI (tOp rModI (tCB rInt (tCons (tVar 2) tNil)) (tC (.int 7))) (tC (.int 3))))
          tNext)
      (tRet (tVar 2))))))
theorem d__law_integer (bn : Bn mg) (C : Cn K mg) {k : Nat} {f : Addr} {cdv : Value} {A : Around} {outer : List Env} {s : Shared} {H : Hp} {E : XK} (hr : Room k (A.deeper (PyProof.Rows.envOfC "_law_integer" (defScope s__law_integer) s.heap.objs.size f cdv)))
    {k__law_cell : Nat} {F__law_cell : DSp} (h__law_cell : Has P w K mg base CX0 k__law_cell "_law_cell" ["script", "k"] F__law_cell) (l__law_cell : k__law_cell ≤ k)
    : PSs (cxOf CX0 P w K mg base ["script", "k", "number", "kind"] "_law_integer" (defScope s__law_integer) f cdv A outer s H E).nox (defBody s__law_integer) (t__law_integer K F__law_cell) :=
  (pss_cons (ps_set (i := 2) sc__law_integer.nd rfl (by first | exact Or.inl rfl | exact Or.inr rfl) (pe_has h__law_cell (hr.mono (by omega)) pass0 rfl (pa_cons (pv 0) (pa_cons (pv 1) pa_nil)) (by decide)))
      (pss_cons (ps_set (i := 3) sc__law_integer.nd rfl (by first | exact Or.inl rfl | exact Or.inr rfl) (pe_op op_mod (pe_callTy call_int1 (by rfl) bn.b_int boot_int (pa_cons (pe_has h__law_cell (hr.mono (by omega)) pass0 rfl (pa_cons (pv 0) (pa_cons (pe_op op_addU (pv 1) pe_int) pa_nil)) (by decide)) pa_nil)) pe_int))
      (pss_cons (ps_if (pt_cmpR (op_eqU hr.units) (pv 3) pe_int (nomark _))
          (pss_one (ps_ret (pe_op op_sub (pe_op op_addU (pe_op op_mulU pe_int (pe_op op_sub (pe_op op_mod (pe_callTy call_int1 (by rfl) bn.b_int boot_int (pa_cons (pv 2) pa_nil)) pe_int) pe_int)) (pe_op op_mod (pe_callTy call_int1 (by rfl) bn.b_int boot_int (pa_cons (pe_op op_fdivW (pv 2) pe_int) pa_nil)) pe_int)) pe_int)))
          pss_nil)
      (pss_cons (ps_if (pt_cmpR (op_eqU hr.units) (pv 3) pe_int (nomark _))
          (pss_one (ps_ret (pe_op op_sub (pe_op op_mod (pe_callTy call_int1 (by rfl) bn.b_int boot_int (pa_cons (pv 2) pa_nil)) pe_int) pe_int)))
          pss_nil)
      (pss_one (ps_ret (pv 2)))))))
/-- what the body of _law_wrapped does, and that it does -/
def t__law_wrapped (K : PySem.W.Frag)  : TS :=
  (tSeq (tIfS (tOr (tNot (tB (tCB (rIsi K) (tCons (tVar 0) (tCons (tC (.ty "int")) tNil))))) (tB (tCB (rIsi K) (tCons (tVar 0) (tCons (tC (.ty "bool")) tNil)))))
          (tRet (tC (.bl false)))
          tNext)
      (tSeq (tIfS (tNot (tTest (tChain rLeI rLeI (tUn rNegI (tC (.int 2147483648))) (tVar 0) (tC (.int 2147483647)))))
          (tRet (tC (.bl false)))
          tNext)
      (tRet (tOp (rEqU K) (tOp rModI (tCB rInt (tCons (tOp rSubI (tVar 1) (tVar 0)) tNil)) (tC (.int 4294967296))) (tC (.int 0))))))
theorem d__law_wrapped (bn : Bn mg) (C : Cn K mg) {k : Nat} {f : Addr} {cdv : Value} {A : Around} {outer : List Env} {s : Shared} {H : Hp} {E : XK} (hr : Room k (A.deeper (PyProof.Rows.envOfC "_law_wrapped" (defScope s__law_wrapped) s.heap.objs.size f cdv)))
    : PSs (cxOf CX0 P w K mg base ["actual", "number"] "_law_wrapped" (defScope s__law_wrapped) f cdv A outer s H E).nox (defBody s__law_wrapped) (t__law_wrapped K) :=
  (pss_cons (ps_if (PW.pt (pw_or (pt_not (pt_val (pe_callB call_isi (by rfl) bn.b_isinstance boot_isinstance (pa_cons (pv 0) (pa_cons (pe_bltn (v := .ty "int") (by rfl) bn.b_int boot_int rfl) pa_nil))))) (pw_or1 (pt_val (pe_callB call_isi (by rfl) bn.b_isinstance boot_isinstance (pa_cons (pv 0) (pa_cons (pe_bltn (v := .ty "bool") (by rfl) bn.b_bool boot_bool rfl) pa_nil)))))))
          (pss_one (ps_ret pe_bl))
          pss_nil)
      (pss_cons (ps_if (pt_not (pt_chain op_le op_le (pe_un un_neg pe_int) (pv 0) pe_int))
          (pss_one (ps_ret pe_bl))
          pss_nil)
      (pss_one (ps_ret (pe_cmpR (op_eqU hr.units) (pe_op op_mod (pe_callTy call_int1 (by rfl) bn.b_int boot_int (pa_cons (pe_op op_sub (pv 1) (pv 0)) pa_nil)) pe_int) pe_int (nomark _))))))
/-- what the body of _law_exactly does, and that it does -/
def t__law_exactly (K : PySem.W.Frag)  : TS :=
  (tRet (tAndV (tCB (rIsi K) (tCons (tVar 0) (tCons (tC (.ty "int")) tNil))) (tAndV (tNotV (tCB (rIsi K) (tCons (tVar 0) (tCons (tC (.ty "bool")) tNil)))) (tOp (rEqU K) (tVar 0) (tVar 1)))))
theorem d__law_exactly (bn : Bn mg) (C : Cn K mg) {k : Nat} {f : Addr} {cdv : Value} {A : Around} {outer : List Env} {s : Shared} {H : Hp} {E : XK} (hr : Room k (A.deeper (PyProof.Rows.envOfC "_law_exactly" (defScope s__law_exactly) s.heap.objs.size f cdv)))
    : PSs (cxOf CX0 P w K mg base ["actual", "due"] "_law_exactly" (defScope s__law_exactly) f cdv A outer s H E).nox (defBody s__law_exactly) (t__law_exactly K) :=
  (pss_one (ps_ret (pe_and (pe_callB call_isi (by rfl) bn.b_isinstance boot_isinstance (pa_cons (pv 0) (pa_cons (pe_bltn (v := .ty "int") (by rfl) bn.b_int boot_int rfl) pa_nil))) (pe_and (pe_not (pe_callB call_isi (by rfl) bn.b_isinstance boot_isinstance (pa_cons (pv 0) (pa_cons (pe_bltn (v := .ty "bool") (by rfl) bn.b_bool boot_bool rfl) pa_nil)))) (pe_one (pe_cmpR (op_eqU hr.units) (pv 0) (pv 1) (nomark _)))))))
/-- what the body of law does, and that it does -/
def t_law (K : PySem.W.Frag) (F__law_integer : DSp) (F_wrap : DSp) (F__law_exactly : DSp) (F__law_wrapped : DSp) (F_operate : DSp) (F__law_cell : DSp) : TS :=
  (tSeq (tAsg (tCall (spD K 2 F__law_integer) [] E0 (tCons (tVar 0) (tCons (tC (.int 0)) tNil))) (gName 1))
      (tSeq (tAsg (tCall (spD K 2 F__law_integer) [] E0 (tCons (tVar 0) (tCons (tC (.int 2)) tNil))) (gName 2))
      (tSeq (tIfS (tTest (tOp (rEqU K) (tOp rModI (tCB rInt (tCons (tCall (spD K 2 F__law_cell) [] E0 (tCons (tVar 0) (tCons (tC (.int 4)) tNil))) tNil)) (tC (.int 6))) (tC (.int 1))))
          (tAsg (tOp (rAddU K) (tVar 1) (tOp rMulU (tC (.int 4294967296)) (tOp rModI (tCB rInt (tCons (tCall (spD K 2 F__law_cell) [] E0 (tCons (tVar 0) (tCons (tC (.int 4)) tNil))) tNil)) (tC (.int 5))))) (gName 2))
          tNext)
      (tSeq (tAsg (tCall (spD K 1 F_wrap) [] E0 (tCons (tVar 1) tNil)) (gName 3))
      (tSeq (tAsg (tCall (spD K 1 F_wrap) [] E0 (tCons (tVar 2) tNil)) (gName 4))
      (tSeq (tIfS (tOr (tNot (tB (tCall (spD K 2 F__law_wrapped) [] E0 (tCons (tVar 3) (tCons (tVar 1) tNil))))) (tNot (tB (tCall (spD K 2 F__law_wrapped) [] E0 (tCons (tVar 4) (tCons (tVar 2) tNil))))))
          (tRet (tC (.bl false)))
          tNext)
      (tSeq (tIfS (tNot (tB (tCall (spD K 2 F__law_wrapped) [] E0 (tCons (tCall (spD K 3 F_operate) [] E0 (tCons (tC (.str "add")) (tCons (tVar 3) (tCons (tVar 4) tNil)))) (tCons (tOp (rAddU K) (tVar 1) (tVar 2)) tNil)))))
          (tRet (tC (.bl false)))
          tNext)
      (tSeq (tIfS (tNot (tB (tCall (spD K 2 F__law_wrapped) [] E0 (tCons (tCall (spD K 3 F_operate) [] E0 (tCons (tC (.str "sub")) (tCons (tVar 3) (tCons (tVar 4) tNil)))) (tCons (tOp rSubI (tVar 1) (tVar 2)) tNil)))))
          (tRet (tC (.bl false)))
          tNext)
      (tSeq (tIfS (tNot (tB (tCall (spD K 2 F__law_wrapped) [] E0 (tCons (tCall (spD K 3 F_operate) [] E0 (tCons (tC (.str "mul")) (tCons (tVar 3) (tCons (tVar 4) tNil)))) (tCons (tOp rMulU (tVar 1) (tVar 2)) tNil)))))
          (tRet (tC (.bl false)))
          tNext)
      (tSeq (tIfS (tNot (tB (tCall (spD K 2 F__law_exactly) [] E0 (tCons (tCall (spD K 3 F_operate) [] E0 (tCons (tC (.str "less")) (tCons (tVar 3) (tCons (tVar 4) tNil)))) (tCons (tCB rInt (tCons (tOp rLtU (tVar 3) (tVar 4)) tNil)) tNil)))))
          (tRet (tC (.bl false)))
          tNext)
      (tRet (tCall (spD K 2 F__law_exactly) [] E0 (tCons (tCall (spD K 3 F_operate) [] E0 (tCons (tC (.str "same")) (tCons (tVar 3) (tCons (tVar 4) tNil)))) (tCons (tCB rInt (tCons (tOp (rEqU K) (tVar 3) (tVar 4)) tNil)) tNil))))))))))))))
theorem d_law (bn : Bn mg) (C : Cn K mg) {k : Nat} {f : Addr} {cdv : Value} {A : Around} {outer : List Env} {s : Shared} {H : Hp} {E : XK} (hr : Room k (A.deeper (PyProof.Rows.envOfC "law" (defScope s_law) s.heap.objs.size f cdv)))
    {k__law_integer : Nat} {F__law_integer : DSp} (h__law_integer : Has P w K mg base CX0 k__law_integer "_law_integer" ["script", "k"] F__law_integer) (l__law_integer : k__law_integer ≤ k) {k_wrap : Nat} {F_wrap : DSp} (h_wrap : Has P w K mg base CX0 k_wrap "wrap" ["number"] F_wrap) (l_wrap : k_wrap ≤ k) {k__law_exactly : Nat} {F__law_exactly : DSp} (h__law_exactly : Has P w K mg base CX0 k__law_exactly "_law_exactly" ["actual", "due"] F__law_exactly) (l__law_exactly : k__law_exactly ≤ k) {k__law_wrapped : Nat} {F__law_wrapped : DSp} (h__law_wrapped : Has P w K mg base CX0 k__law_wrapped "_law_wrapped" ["actual", "number"] F__law_wrapped) (l__law_wrapped : k__law_wrapped ≤ k) {k_operate : Nat} {F_operate : DSp} (h_operate : Has P w K mg base CX0 k_operate "operate" ["name", "a", "b"] F_operate) (l_operate : k_operate ≤ k) {k__law_cell : Nat} {F__law_cell : DSp} (h__law_cell : Has P w K mg base CX0 k__law_cell "_law_cell" ["script", "k"] F__law_cell) (l__law_cell : k__law_cell ≤ k)
    : PSs (cxOf CX0 P w K mg base ["script", "first", "second", "a", "b"] "law" (defScope s_law) f cdv A outer s H E).nox (defBody s_law) (t_law K F__law_integer F_wrap F__law_exactly F__law_wrapped F_operate F__law_cell) :=
  (pss_cons (ps_set (i := 1) sc_law.nd rfl (by first | exact Or.inl rfl | exact Or.inr rfl) (pe_has h__law_integer (hr.mono (by omega)) pass0 rfl (pa_cons (pv 0) (pa_cons pe_int pa_nil)) (by decide)))
      (pss_cons (ps_set (i := 2) sc_law.nd rfl (by first | exact Or.inl rfl | exact Or.inr rfl) (pe_has h__law_integer (hr.mono (by omega)) pass0 rfl (pa_cons (pv 0) (pa_cons pe_int pa_nil)) (by decide)))
      (pss_cons (ps_if (pt_cmpR (op_eqU hr.units) (pe_op op_mod (pe_callTy call_int1 (by rfl) bn.b_int boot_int (pa_cons (pe_has h__law_cell (hr.mono (by omega)) pass0 rfl (pa_cons (pv 0) (pa_cons pe_int pa_nil)) (by decide)) pa_nil)) pe_int) pe_int (nomark _))
          (pss_one (ps_set (i := 2) sc_law.nd rfl (by first | exact Or.inl rfl | exact Or.inr rfl) (pe_op op_addU (pv 1) (pe_op op_mulU pe_int (pe_op op_mod (pe_callTy call_int1 (by rfl) bn.b_int boot_int (pa_cons (pe_has h__law_cell (hr.mono (by omega)) pass0 rfl (pa_cons (pv 0) (pa_cons pe_int pa_nil)) (by decide)) pa_nil)) pe_int)))))
          pss_nil)
      (pss_cons (ps_set (i := 3) sc_law.nd rfl (by first | exact Or.inl rfl | exact Or.inr rfl) (pe_has h_wrap (hr.mono (by omega)) pass0 rfl (pa_cons (pv 1) pa_nil) (by decide)))
      (pss_cons (ps_set (i := 4) sc_law.nd rfl (by first | exact Or.inl rfl | exact Or.inr rfl) (pe_has h_wrap (hr.mono (by omega)) pass0 rfl (pa_cons (pv 2) pa_nil) (by decide)))
      (pss_cons (ps_if (PW.pt (pw_or (pt_not (pt_val (pe_has h__law_wrapped (hr.mono (by omega)) pass0 rfl (pa_cons (pv 3) (pa_cons (pv 1) pa_nil)) (by decide)))) (pw_or1 (pt_not (pt_val (pe_has h__law_wrapped (hr.mono (by omega)) pass0 rfl (pa_cons (pv 4) (pa_cons (pv 2) pa_nil)) (by decide)))))))
          (pss_one (ps_ret pe_bl))
          pss_nil)
      (pss_cons (ps_if (pt_not (pt_val (pe_has h__law_wrapped (hr.mono (by omega)) pass0 rfl (pa_cons (pe_has h_operate (hr.mono (by omega)) pass0 rfl (pa_cons pe_str (pa_cons (pv 3) (pa_cons (pv 4) pa_nil))) (by decide)) (pa_cons (pe_op op_addU (pv 1) (pv 2)) pa_nil)) (by decide))))
          (pss_one (ps_ret pe_bl))
          pss_nil)
      (pss_cons (ps_if (pt_not (pt_val (pe_has h__law_wrapped (hr.mono (by omega)) pass0 rfl (pa_cons (pe_has h_operate (hr.mono (by omega)) pass0 rfl (pa_cons pe_str (pa_cons (pv 3) (pa_cons (pv 4) pa_nil))) (by decide)) (pa_cons (pe_op op_sub (pv 1) (pv 2)) pa_nil)) (by decide))))
          (pss_one (ps_ret pe_bl))
          pss_nil)
      (pss_cons (ps_if (pt_not (pt_val (pe_has h__law_wrapped (hr.mono (by omega)) pass0 rfl (pa_cons (pe_has h_operate (hr.mono (by omega)) pass0 rfl (pa_cons pe_str (pa_cons (pv 3) (pa_cons (pv 4) pa_nil))) (by decide)) (pa_cons (pe_op op_mulU (pv 1) (pv 2)) pa_nil)) (by decide))))
          (pss_one (ps_ret pe_bl))
          pss_nil)
      (pss_cons (ps_if (pt_not (pt_val (pe_has h__law_exactly (hr.mono (by omega)) pass0 rfl (pa_cons (pe_has h_operate (hr.mono (by omega)) pass0 rfl (pa_cons pe_str (pa_cons (pv 3) (pa_cons (pv 4) pa_nil))) (by decide)) (pa_cons (pe_callTy call_int1 (by rfl) bn.b_int boot_int (pa_cons (pe_cmpR op_ltU (pv 3) (pv 4) (nomark _)) pa_nil)) pa_nil)) (by decide))))
          (pss_one (ps_ret pe_bl))
          pss_nil)
      (pss_one (ps_ret (pe_has h__law_exactly (hr.mono (by omega)) pass0 rfl (pa_cons (pe_has h_operate (hr.mono (by omega)) pass0 rfl (pa_cons pe_str (pa_cons (pv 3) (pa_cons (pv 4) pa_nil))) (by decide)) (pa_cons (pe_callTy call_int1 (by rfl) bn.b_int boot_int (pa_cons (pe_cmpR (op_eqU hr.units) (pv 3) (pv 4) (nomark _)) pa_nil)) pa_nil)) (by decide))))))))))))))
def Ww (n : Int) : Int := (n + 2147483648) % 4294967296 - 2147483648
def f_wrap : DSp := fun xs ow Φ _ => ∃ n : Int, xs = [.z (.int n)] ∧ ow = [] ∧ Φ (.z (.int (Ww n))) []
theorem ok_wrap {f : Addr} {fd : FuncData} (bn : Bn mg) (C : Cn K mg) (T : Fun K "wrap" "wrap" s_wrap f fd) :
    FnOk P w K mg base CX0 (0 + 1) f fd ["number"] (spD K 1 f_wrap) := by
  refine fn_ok T sc_wrap fun cdv A outer s H E hr => ⟨_, d_wrap bn C hr, fun B xs ow Φ Ψ hB h => ?_⟩
  obtain ⟨n, rfl, rfl, k⟩ := h
  unfold t_wrap
  walk_at "yw"
  exact k
section
variable {B : Bs} {E E1 E2 E3 : En} {ta tb tc te : TE} {n m i j : Int}
theorem c_wrap (ha : Ev K B ta E (.z (.int n)) E1) : Ev K B (tCall (spD K 1 f_wrap) [] E0 (tCons ta tNil)) E (.z (.int (Ww n))) E1 := ev_c1 ha fun Φ Ψ k => ⟨n, rfl, rfl, k⟩
end
local macro_rules | `(tactic| walk_at "ycall") => `(tactic| ((with_reducible refine' c_wrap ?ha); (case ha => walk_at "yev")))
def opv (x : Str) (a b : Int) : Int := if x = "add" then Ww (a + b) else if x = "sub" then Ww (a - b) else if x = "mul" then Ww (a * b) else if x = "less" then (if decide (a < b) = true then 1 else 0) else (if decide (a = b) = true then 1 else 0)
def f_operate : DSp := fun xs ow Φ _ => ∃ (x : Str) (a b : Int), xs = [.z (.str x), .z (.int a), .z (.int b)] ∧ (-2147483648 ≤ a ∧ a < 2147483648) ∧ ow = [] ∧ Φ (.z (.int (opv x a b))) []
theorem ok_operate {f : Addr} {fd : FuncData} (bn : Bn mg) (C : Cn K mg) (T : Fun K "operate" "operate" s_operate f fd) (h_wrap : Has P w K mg base CX0 1 "wrap" ["number"] f_wrap) :
    FnOk P w K mg base CX0 (1 + 1) f fd ["name", "a", "b"] (spD K 3 f_operate) := by
  refine fn_ok T sc_operate fun cdv A outer s H E hr => ⟨_, d_operate bn C hr (h_wrap := h_wrap) (l_wrap := by decide), fun B xs ow Φ Ψ hB h => ?_⟩
  obtain ⟨x, a, b, rfl, ha, rfl, k⟩ := h
  unfold t_operate
  unfold opv at k
  walk_at "yw"
  · intro e
    rw [if_pos e] at k
    walk_at "yw"
    exact k
  · intro e
    rw [if_neg e] at k
    walk_at "yw"
    · intro e
      rw [if_pos e] at k
      walk_at "yw"
      exact k
    · intro e
      rw [if_neg e] at k
      walk_at "yw"
      · intro e
        rw [if_pos e] at k
        walk_at "yw"
        exact k
      · intro e
        rw [if_neg e] at k
        walk_at "yw"
        · intro e
          rw [if_pos e] at k
          walk_at "yw"
          exact k
        · intro e
          rw [if_neg e] at k
          walk_at "yw"
          exact k
section
variable {B : Bs} {E E1 E2 E3 : En} {ta tb tc te : TE} {n m i j : Int} {x : Str} {ns : List Int}
theorem c_operate (h : -2147483648 ≤ i ∧ i < 2147483648) (ha : Ev K B ta E (.z (.str x)) E1) (hb : Ev K B tb E1 (.z (.int i)) E2) (hc : Ev K B tc E2 (.z (.int j)) E3) : Ev K B (tCall (spD K 3 f_operate) [] E0 (tCons ta (tCons tb (tCons tc tNil)))) E (.z (.int (opv x i j))) E3 :=
  ev_c3 ha hb hc fun Φ Ψ k => ⟨x, i, j, rfl, h, rfl, k⟩
end
local macro_rules | `(tactic| walk_at "ycall") => `(tactic| ((with_reducible refine' c_operate ?h ?ha ?hb ?hc); (case ha => walk_at "yev"); (case hb => walk_at "yev"); (case hc => walk_at "yev"); (case h => walk_at "yside")))
/-- a cell of the script -/
def cell (ns : List Int) (k : Nat) : Int := ns.getD k 0
def f__law_cell : DSp := fun xs ow Φ _ => ∃ (ns : List Int) (k : Nat), xs = [.z (.list (ns.map .int)), .z (.int k)] ∧ ow = [] ∧ Φ (.z (.int (cell ns k))) []
theorem ok__law_cell {f : Addr} {fd : FuncData} (bn : Bn mg) (C : Cn K mg) (T : Fun K "_law_cell" "_law_cell" s__law_cell f fd) :
    FnOk P w K mg base CX0 (0 + 1) f fd ["script", "k"] (spD K 2 f__law_cell) := by
  refine fn_ok T sc__law_cell fun cdv A outer s H E hr => ⟨_, d__law_cell bn C hr, fun B xs ow Φ Ψ hB h => ?_⟩
  obtain ⟨ns, k, rfl, rfl, q⟩ := h
  unfold t__law_cell
  walk_at "yw"
  · intro e
    simp only [List.length_map] at e
    have hk : k < ns.length := by omega
    refine w_ret (ev_ixL (x := .z (.list (ns.map .int))) (e := .z (.int (cell ns k))) (by walk_at "yev") (by walk_at "yev") .z (atI_nat ?_)) q
    rw [List.getElem?_map, List.getElem?_map, List.getElem?_eq_getElem hk]
    unfold cell
    rw [List.getD_eq_getElem?_getD, List.getElem?_eq_getElem hk]
    rfl
  · intro e
    simp only [List.length_map] at e
    have hk : ns.length ≤ k := by omega
    walk_at "yw"
    have e0 : cell ns k = 0 := by unfold cell; rw [List.getD_eq_getElem?_getD, List.getElem?_eq_none hk]; rfl
    rw [e0] at q
    exact q
section
variable {B : Bs} {E E1 E2 E3 : En} {ta tb tc te : TE} {n m i j : Int} {x : Str} {ns : List Int}
theorem c_cell (k : Nat) (e : i = (k : Int)) (ha : Ev K B ta E (.z (.list (ns.map .int))) E1) (hb : Ev K B tb E1 (.z (.int i)) E2) : Ev K B (tCall (spD K 2 f__law_cell) [] E0 (tCons ta (tCons tb tNil))) E (.z (.int (cell ns k))) E2 := by
  subst e
  exact ev_c2 ha hb fun Φ Ψ q => ⟨ns, k, rfl, rfl, q⟩
end
/-! ### the law's helpers -/
def integ (ns : List Int) (k : Nat) : Int :=
  if cell ns (k + 1) % 5 = 1 then 2147483648 * (cell ns k % 9 - 4) + cell ns k / 9 % 3 - 1 else if cell ns (k + 1) % 5 = 2 then cell ns k % 7 - 3 else cell ns k
def f__law_integer : DSp := fun xs ow Φ _ => ∃ (ns : List Int) (k : Nat), xs = [.z (.list (ns.map .int)), .z (.int k)] ∧ ow = [] ∧ Φ (.z (.int (integ ns k))) []
theorem ok__law_integer {f : Addr} {fd : FuncData} (bn : Bn mg) (C : Cn K mg) (T : Fun K "_law_integer" "_law_integer" s__law_integer f fd) (h__law_cell : Has P w K mg base CX0 1 "_law_cell" ["script", "k"] f__law_cell) :
    FnOk P w K mg base CX0 (1 + 1) f fd ["script", "k"] (spD K 2 f__law_integer) := by
  refine fn_ok T sc__law_integer fun cdv A outer s H E hr => ⟨_, d__law_integer bn C hr (h__law_cell := h__law_cell) (l__law_cell := by decide), fun B xs ow Φ Ψ hB h => ?_⟩
  obtain ⟨ns, k, rfl, rfl, q⟩ := h
  unfold t__law_integer
  refine w_seq (w_asg (c_cell k rfl (by walk_at "yev") (by walk_at "yev")) ?_)
  show W _ _ _ _ _
  dsimp only [List.set]
  refine w_seq (w_asg (ev_op (ev_int1 (c_cell (i := (k : Int) + 1) (k + 1) rfl (by walk_at "yev") (by walk_at "yev"))) (by walk_at "yev") .z .z (by walk_at "ysc")) ?_)
  show W _ _ _ _ _
  unfold integ at q
  walk_at "yw"
  · intro e
    rw [if_pos e] at q
    walk_at "yw"
    exact q
  · intro e
    rw [if_neg e] at q
    walk_at "yw"
    · intro e
      rw [if_pos e] at q
      walk_at "yw"
      exact q
    · intro e
      rw [if_neg e] at q
      walk_at "yw"
      exact q
def wrapd (a n : Int) : Bool := decide (-2147483648 ≤ a) && decide (a ≤ 2147483647) && decide ((n - a) % 4294967296 = 0)
def f__law_wrapped : DSp := fun xs ow Φ _ => ∃ (a n : Int), xs = [.z (.int a), .z (.int n)] ∧ ow = [] ∧ Φ (.z (.bool (wrapd a n))) []
theorem ok__law_wrapped {f : Addr} {fd : FuncData} (bn : Bn mg) (C : Cn K mg) (T : Fun K "_law_wrapped" "_law_wrapped" s__law_wrapped f fd) :
    FnOk P w K mg base CX0 (0 + 1) f fd ["actual", "number"] (spD K 2 f__law_wrapped) := by
  refine fn_ok T sc__law_wrapped fun cdv A outer s H E hr => ⟨_, d__law_wrapped bn C hr, fun B xs ow Φ Ψ hB h => ?_⟩
  obtain ⟨a, n, rfl, rfl, q⟩ := h
  unfold t__law_wrapped
  unfold wrapd at q
  refine w_seq (w_no (et_is (by walk_at "yet") (by rfl) rfl) ?_)
  walk_at "yw"
  · intro e
    rw [Bool.not_eq_true'] at e
    rw [e] at q
    walk_at "yw"
    exact q
  · intro e
    rw [Bool.not_eq_false'] at e
    rw [e] at q
    walk_at "yw"
    exact q
def f__law_exactly : DSp := fun xs ow Φ _ => ∃ (a n : Int), xs = [.z (.int a), .z (.int n)] ∧ ow = [] ∧ Φ (.z (.bool (decide (a = n)))) []
theorem ok__law_exactly {f : Addr} {fd : FuncData} (bn : Bn mg) (C : Cn K mg) (T : Fun K "_law_exactly" "_law_exactly" s__law_exactly f fd) :
    FnOk P w K mg base CX0 (0 + 1) f fd ["actual", "due"] (spD K 2 f__law_exactly) := by
  refine fn_ok T sc__law_exactly fun cdv A outer s H E hr => ⟨_, d__law_exactly bn C hr, fun B xs ow Φ Ψ hB h => ?_⟩
  obtain ⟨a, n, rfl, rfl, q⟩ := h
  unfold t__law_exactly
  walk_at "yw"
  exact q
section
variable {B : Bs} {E E1 E2 E3 : En} {ta tb tc te : TE} {n m i j : Int} {x : Str} {ns : List Int}
theorem c_integer (k : Nat) (e : i = (k : Int)) (ha : Ev K B ta E (.z (.list (ns.map .int))) E1) (hb : Ev K B tb E1 (.z (.int i)) E2) : Ev K B (tCall (spD K 2 f__law_integer) [] E0 (tCons ta (tCons tb tNil))) E (.z (.int (integ ns k))) E2 := by
  subst e
  exact ev_c2 ha hb fun Φ Ψ q => ⟨ns, k, rfl, rfl, q⟩
theorem c_wrapped (h : wrapd i j = true) (ha : Ev K B ta E (.z (.int i)) E1) (hb : Ev K B tb E1 (.z (.int j)) E2) : Ev K B (tCall (spD K 2 f__law_wrapped) [] E0 (tCons ta (tCons tb tNil))) E (.z (.bool true)) E2 :=
  ev_c2 ha hb fun Φ Ψ q => ⟨i, j, rfl, rfl, by rw [h]; exact q⟩
theorem c_exactly (h : i = j) (ha : Ev K B ta E (.z (.int i)) E1) (hb : Ev K B tb E1 (.z (.int j)) E2) : Ev K B (tCall (spD K 2 f__law_exactly) [] E0 (tCons ta (tCons tb tNil))) E (.z (.bool true)) E2 :=
  ev_c2 ha hb fun Φ Ψ q => ⟨i, j, rfl, rfl, by rw [decide_eq_true h]; exact q⟩
end
/-! ### the mathematics -/
theorem ww_lo (n : Int) : -2147483648 ≤ Ww n ∧ Ww n < 2147483648 := by unfold Ww; omega
theorem ww_mod (n : Int) : ∃ p, n = Ww n + 4294967296 * p := ⟨(n + 2147483648) / 4294967296, by unfold Ww; omega⟩
theorem wrapd_of {n m : Int} (h : ∃ p, m = n + 4294967296 * p) : wrapd (Ww n) m = true := by
  obtain ⟨p, rfl⟩ := h
  have h1 := ww_lo n
  obtain ⟨q, h2⟩ := ww_mod n
  unfold wrapd
  rw [decide_eq_true h1.1, decide_eq_true (show Ww n ≤ 2147483647 by omega), decide_eq_true (show (n + 4294967296 * p - Ww n) % 4294967296 = 0 by omega)]
  rfl
theorem wrapd_mul (n m : Int) : wrapd (Ww (Ww n * Ww m)) (n * m) = true := by
  refine wrapd_of ?_
  obtain ⟨p, hp⟩ := ww_mod n
  obtain ⟨q, hq⟩ := ww_mod m
  generalize Ww n = a at *
  generalize Ww m = b at *
  subst hp hq
  exact ⟨a * q + p * b + 4294967296 * (p * q), by grind⟩
theorem wrapd_add (n m : Int) : wrapd (Ww (Ww n + Ww m)) (n + m) = true := by
  refine wrapd_of ?_
  obtain ⟨p, hp⟩ := ww_mod n
  obtain ⟨q, hq⟩ := ww_mod m
  exact ⟨p + q, by omega⟩
theorem wrapd_sub (n m : Int) : wrapd (Ww (Ww n - Ww m)) (n - m) = true := by
  refine wrapd_of ?_
  obtain ⟨p, hp⟩ := ww_mod n
  obtain ⟨q, hq⟩ := ww_mod m
  exact ⟨p - q, by omega⟩
theorem wrapd_self (n : Int) : wrapd (Ww n) n = true := wrapd_of ⟨0, by omega⟩
/-- sizes: no more than N bits -/
theorem log_of {n : Int} {N : Nat} (h0 : 0 < N) (h : n.natAbs < 2 ^ N) : n.natAbs.log2 < N := PySem.Flt.log2_lt_of h0 h
theorem cell_small {ns : List Int} {N : Nat} (h : ∀ z ∈ ns, z.natAbs < 2 ^ N) (k : Nat) : (cell ns k).natAbs < 2 ^ N := by
  unfold cell
  by_cases hk : k < ns.length
  · rw [List.getD_eq_getElem?_getD, List.getElem?_eq_getElem hk]
    exact h _ (List.getElem_mem hk)
  · rw [List.getD_eq_getElem?_getD, List.getElem?_eq_none (by omega)]
    exact Nat.pow_pos (by decide)
theorem integ_small {ns : List Int} {N : Nat} (hN : 40 ≤ N) (h : ∀ z ∈ ns, z.natAbs < 2 ^ N) (k : Nat) : (integ ns k).natAbs < 2 ^ N := by
  have h1 := cell_small h k
  have h2 : (2 : Nat) ^ 40 ≤ 2 ^ N := Nat.pow_le_pow_right (by decide) hN
  have h3 : (2 : Nat) ^ 40 = 1099511627776 := by decide
  rw [h3] at h2
  generalize (2 : Nat) ^ N = M at *
  unfold integ
  generalize cell ns k = c at *
  split
  · omega
  · split <;> omega
theorem bits_small {z : Int} {N : Nat} (h : Builtin.Int.intBits z ≤ N) : z.natAbs < 2 ^ N := by
  unfold Builtin.Int.intBits at h
  split at h
  · rename_i e
    have e := eq_of_beq e
    subst e
    exact Nat.pow_pos (by decide)
  · exact Nat.lt_of_lt_of_le (Nat.lt_log2_self) (Nat.pow_le_pow_right (by decide) h)
/-! ### the law -/
theorem opv_add (a b : Int) : opv "add" a b = Ww (a + b) := by unfold opv; rw [if_pos rfl]
theorem opv_sub (a b : Int) : opv "sub" a b = Ww (a - b) := by unfold opv; rw [if_neg (by decide), if_pos rfl]
theorem opv_mul (a b : Int) : opv "mul" a b = Ww (a * b) := by unfold opv; rw [if_neg (by decide), if_neg (by decide), if_pos rfl]
theorem opv_less (a b : Int) : opv "less" a b = if decide (a < b) = true then 1 else 0 := by unfold opv; rw [if_neg (by decide), if_neg (by decide), if_neg (by decide), if_pos rfl]
theorem opv_same (a b : Int) : opv "same" a b = if decide (a = b) = true then 1 else 0 := by unfold opv; rw [if_neg (by decide), if_neg (by decide), if_neg (by decide), if_neg (by decide)]
local macro_rules | `(tactic| walk_at "ycall") => `(tactic| ((with_reducible refine' c_wrapped ?h ?ha ?hb); (case ha => walk_at "yev"); (case hb => walk_at "yev"); (case h => first | exact wrapd_self _ | (rw [opv_add]; exact wrapd_add _ _) | (rw [opv_sub]; exact wrapd_sub _ _) | (rw [opv_mul]; exact wrapd_mul _ _))))
local macro_rules | `(tactic| walk_at "ycall") => `(tactic| ((with_reducible refine' c_exactly ?h ?ha ?hb); (case ha => walk_at "yev"); (case hb => walk_at "yev"); (case h => first | exact opv_less _ _ | exact opv_same _ _)))
def f_law : DSp := fun xs ow Φ _ => ∃ ns : List Int, xs = [.z (.list (ns.map .int))] ∧ (∀ z ∈ ns, Builtin.Int.intBits z ≤ 1048576) ∧ ow = [] ∧ Φ (.z (.bool true)) []
theorem ok_law {f : Addr} {fd : FuncData} (bn : Bn mg) (C : Cn K mg) (T : Fun K "law" "law" s_law f fd) (h__law_integer : Has P w K mg base CX0 2 "_law_integer" ["script", "k"] f__law_integer) (h_wrap : Has P w K mg base CX0 1 "wrap" ["number"] f_wrap) (h__law_exactly : Has P w K mg base CX0 1 "_law_exactly" ["actual", "due"] f__law_exactly) (h__law_wrapped : Has P w K mg base CX0 1 "_law_wrapped" ["actual", "number"] f__law_wrapped) (h_operate : Has P w K mg base CX0 2 "operate" ["name", "a", "b"] f_operate) (h__law_cell : Has P w K mg base CX0 1 "_law_cell" ["script", "k"] f__law_cell) :
    FnOk P w K mg base CX0 (2 + 1) f fd ["script"] (spD K 1 f_law) := by
  refine fn_ok T sc_law fun cdv A outer s H E hr => ⟨_, d_law bn C hr (h__law_integer := h__law_integer) (l__law_integer := by decide) (h_wrap := h_wrap) (l_wrap := by decide) (h__law_exactly := h__law_exactly) (l__law_exactly := by decide) (h__law_wrapped := h__law_wrapped) (l__law_wrapped := by decide) (h_operate := h_operate) (l_operate := by decide) (h__law_cell := h__law_cell) (l__law_cell := by decide), fun B xs ow Φ Ψ hB h => ?_⟩
  obtain ⟨ns, rfl, hbits, rfl, q⟩ := h
  have hs : ∀ z ∈ ns, z.natAbs < 2 ^ 1048576 := fun z hz => bits_small (hbits z hz)
  have l0 : (integ ns 0).natAbs.log2 < 1048576 := log_of (by decide) (integ_small (by decide) hs 0)
  have l2 : (integ ns 2).natAbs.log2 < 1048576 := log_of (by decide) (integ_small (by decide) hs 2)
  have w1 := fun n => ww_lo n
  unfold t_law
  refine w_seq (w_asg (c_integer (i := 0) 0 rfl (by walk_at "yev") (by walk_at "yev")) ?_)
  refine w_seq (w_asg (c_integer (i := 2) 2 rfl (by walk_at "yev") (by walk_at "yev")) ?_)
  refine w_mid (fun E' => ∃ sec : Int, E' = ⟨[some (.z (.list (ns.map .int))), some (.z (.int (integ ns 0))), some (.z (.int sec)), none, none], []⟩ ∧ sec.natAbs.log2 < 1048600) ?_ ?_
  · refine w_iff (p := cell ns 4 % 6 = 1) (et_test (ev_op (ev_op (ev_int1 (c_cell (i := 4) 4 rfl (by walk_at "yev") (by walk_at "yev"))) (by walk_at "yev") .z .z (by walk_at "ysc")) (by walk_at "yev") .z .z (by walk_at "ysc"))) (fun _ => ?_) (fun _ => ?_)
    · refine w_asg (ev_op (by walk_at "yev") (ev_op (by walk_at "yev") (ev_op (ev_int1 (c_cell (i := 4) 4 rfl (by walk_at "yev") (by walk_at "yev"))) (by walk_at "yev") .z .z (by walk_at "ysc")) .z .z (sc_mul (.inl (by omega)))) .z .z (by walk_at "ysc")) ?_
      refine ⟨_, rfl, ?_⟩
      refine Nat.lt_of_lt_of_le (log_of (N := 1048577) (by decide) ?_) (by decide)
      have g := integ_small (ns := ns) (by decide) hs 0
      have e1 : (2 : Nat) ^ 1048577 = 2 ^ 1048576 * 2 := Nat.pow_succ ..
      have e2 : (2 : Nat) ^ 60 ≤ 2 ^ 1048576 := Nat.pow_le_pow_right (by decide) (by decide)
      have e3 : (2 : Nat) ^ 60 = 1152921504606846976 := by decide
      rw [e1]
      rw [e3] at e2
      generalize (2 : Nat) ^ 1048576 = M at *
      omega
    · refine w_next ⟨_, rfl, ?_⟩
      omega
  · rintro E' ⟨sec, rfl, hsec⟩
    refine w_seq (w_asg (by walk_at "yev") ?_)
    refine w_seq (w_asg (by walk_at "yev") ?_)
    have wa := ww_lo (integ ns 0)
    refine w_seq (w_no (et_is (by walk_at "yet") (by rfl) rfl) ?_)
    refine w_next (w_seq (w_no (et_is (by walk_at "yet") (by rfl) rfl) ?_))
    refine w_next (w_seq (w_no (et_is (by walk_at "yet") (by rfl) rfl) ?_))
    refine w_next (w_seq (w_no (et_is (by walk_at "yet") (by rfl) rfl) ?_))
    refine w_next (w_seq (w_no (et_is (by walk_at "yet") (by rfl) rfl) ?_))
    refine w_next ?_
    refine w_ret (by walk_at "yev") q
theorem law_pre {ns : List Int} (hl : ns.length ≤ 63) (hb : ∀ z ∈ ns, Builtin.Int.intBits z ≤ 1048576) {Φ : OE → List OD → Prop} {Ψ : Value → Xf → List OD → Prop} (k : Φ (.z (.bool true)) []) : f_law [.z (.list (ns.map .int))] [] Φ Ψ := ⟨ns, rfl, hb, rfl, k⟩
end
theorem all_mk {P : Program} {w : World} {K : PySem.W.Frag} {h : Heap} {mg : Str → Option Value} {fa : Addr} (X : K.In h) (G : h.Ns mainGlobals mg) (hfa : mg "law" = some (.ref fa))
    {f0 : Addr} {oc0 kV0 dc0 pm0 cd0 ct0 : Value} {od0 an0 : Option Addr} {sl0 : Array (Option Value)}
    (a0 : PySem.W.nsIn K mainGlobals "wrap" = some (some (.ref f0))) (l0 : K.lookup f0 = some ⟨oc0, od0, .func (PySem.W.fnOf "wrap" "wrap" (defArgs s_wrap) (defBody s_wrap) (defScope s_wrap) .none kV0 dc0 pm0 an0 cd0 ct0), sl0⟩) (c0 : PySem.W.codeIn K cd0 "wrap" = true) (k0 : PySem.W.keepIn K (.ref f0) = true)
    {f1 : Addr} {oc1 kV1 dc1 pm1 cd1 ct1 : Value} {od1 an1 : Option Addr} {sl1 : Array (Option Value)}
    (a1 : PySem.W.nsIn K mainGlobals "operate" = some (some (.ref f1))) (l1 : K.lookup f1 = some ⟨oc1, od1, .func (PySem.W.fnOf "operate" "operate" (defArgs s_operate) (defBody s_operate) (defScope s_operate) .none kV1 dc1 pm1 an1 cd1 ct1), sl1⟩) (c1 : PySem.W.codeIn K cd1 "operate" = true) (k1 : PySem.W.keepIn K (.ref f1) = true)
    {f2 : Addr} {oc2 kV2 dc2 pm2 cd2 ct2 : Value} {od2 an2 : Option Addr} {sl2 : Array (Option Value)}
    (a2 : PySem.W.nsIn K mainGlobals "_law_cell" = some (some (.ref f2))) (l2 : K.lookup f2 = some ⟨oc2, od2, .func (PySem.W.fnOf "_law_cell" "_law_cell" (defArgs s__law_cell) (defBody s__law_cell) (defScope s__law_cell) .none kV2 dc2 pm2 an2 cd2 ct2), sl2⟩) (c2 : PySem.W.codeIn K cd2 "_law_cell" = true) (k2 : PySem.W.keepIn K (.ref f2) = true)
    {f3 : Addr} {oc3 kV3 dc3 pm3 cd3 ct3 : Value} {od3 an3 : Option Addr} {sl3 : Array (Option Value)}
    (a3 : PySem.W.nsIn K mainGlobals "_law_integer" = some (some (.ref f3))) (l3 : K.lookup f3 = some ⟨oc3, od3, .func (PySem.W.fnOf "_law_integer" "_law_integer" (defArgs s__law_integer) (defBody s__law_integer) (defScope s__law_integer) .none kV3 dc3 pm3 an3 cd3 ct3), sl3⟩) (c3 : PySem.W.codeIn K cd3 "_law_integer" = true) (k3 : PySem.W.keepIn K (.ref f3) = true)
    {f4 : Addr} {oc4 kV4 dc4 pm4 cd4 ct4 : Value} {od4 an4 : Option Addr} {sl4 : Array (Option Value)}
    (a4 : PySem.W.nsIn K mainGlobals "_law_wrapped" = some (some (.ref f4))) (l4 : K.lookup f4 = some ⟨oc4, od4, .func (PySem.W.fnOf "_law_wrapped" "_law_wrapped" (defArgs s__law_wrapped) (defBody s__law_wrapped) (defScope s__law_wrapped) .none kV4 dc4 pm4 an4 cd4 ct4), sl4⟩) (c4 : PySem.W.codeIn K cd4 "_law_wrapped" = true) (k4 : PySem.W.keepIn K (.ref f4) = true)
    {f5 : Addr} {oc5 kV5 dc5 pm5 cd5 ct5 : Value} {od5 an5 : Option Addr} {sl5 : Array (Option Value)}
    (a5 : PySem.W.nsIn K mainGlobals "_law_exactly" = some (some (.ref f5))) (l5 : K.lookup f5 = some ⟨oc5, od5, .func (PySem.W.fnOf "_law_exactly" "_law_exactly" (defArgs s__law_exactly) (defBody s__law_exactly) (defScope s__law_exactly) .none kV5 dc5 pm5 an5 cd5 ct5), sl5⟩) (c5 : PySem.W.codeIn K cd5 "_law_exactly" = true) (k5 : PySem.W.keepIn K (.ref f5) = true)
    {f6 : Addr} {oc6 kV6 dc6 pm6 cd6 ct6 : Value} {od6 an6 : Option Addr} {sl6 : Array (Option Value)}
    (a6 : PySem.W.nsIn K mainGlobals "law" = some (some (.ref f6))) (l6 : K.lookup f6 = some ⟨oc6, od6, .func (PySem.W.fnOf "law" "law" (defArgs s_law) (defBody s_law) (defScope s_law) .none kV6 dc6 pm6 an6 cd6 ct6), sl6⟩) (c6 : PySem.W.codeIn K cd6 "law" = true) (k6 : PySem.W.keepIn K (.ref f6) = true)
    (b_abs : PySem.W.nsIn K mainGlobals "abs" = some none)
    (b_all : PySem.W.nsIn K mainGlobals "all" = some none)
    (b_any : PySem.W.nsIn K mainGlobals "any" = some none)
    (b_bool : PySem.W.nsIn K mainGlobals "bool" = some none)
    (b_dict : PySem.W.nsIn K mainGlobals "dict" = some none)
    (b_enumerate : PySem.W.nsIn K mainGlobals "enumerate" = some none)
    (b_int : PySem.W.nsIn K mainGlobals "int" = some none)
    (b_isinstance : PySem.W.nsIn K mainGlobals "isinstance" = some none)
    (b_len : PySem.W.nsIn K mainGlobals "len" = some none)
    (b_list : PySem.W.nsIn K mainGlobals "list" = some none)
    (b_max : PySem.W.nsIn K mainGlobals "max" = some none)
    (b_min : PySem.W.nsIn K mainGlobals "min" = some none)
    (b_range : PySem.W.nsIn K mainGlobals "range" = some none)
    (b_repr : PySem.W.nsIn K mainGlobals "repr" = some none)
    (b_reversed : PySem.W.nsIn K mainGlobals "reversed" = some none)
    (b_set : PySem.W.nsIn K mainGlobals "set" = some none)
    (b_sorted : PySem.W.nsIn K mainGlobals "sorted" = some none)
    (b_str : PySem.W.nsIn K mainGlobals "str" = some none)
    (b_sum : PySem.W.nsIn K mainGlobals "sum" = some none)
    (b_tuple : PySem.W.nsIn K mainGlobals "tuple" = some none)
    (b_zip : PySem.W.nsIn K mainGlobals "zip" = some none)
    {t_HALF : Tok} (c_HALF : PySem.W.nsIn K mainGlobals "HALF" = some (some (.int 2147483648 t_HALF)))
    {t_WHOLE : Tok} (c_WHOLE : PySem.W.nsIn K mainGlobals "WHOLE" = some (some (.int 4294967296 t_WHOLE)))
    : ∃ fd : FuncData, (∀ (s : Shared) (v : Value), BindsTo s fd ⟨[v], []⟩ [("script", v)]) ∧ ∀ base : Heap, K.In base → base.Ns mainGlobals mg → FnOk P w K mg base CX0 3 fa fd ["script"] (spD K 1 f_law) := by
  have e := hfa.symm.trans (PySem.W.mg_of X G a6)
  cases e
  have bn : Bn mg := { b_abs := PySem.W.mg_none_of X G b_abs, b_all := PySem.W.mg_none_of X G b_all, b_any := PySem.W.mg_none_of X G b_any, b_bool := PySem.W.mg_none_of X G b_bool, b_dict := PySem.W.mg_none_of X G b_dict, b_enumerate := PySem.W.mg_none_of X G b_enumerate, b_int := PySem.W.mg_none_of X G b_int, b_isinstance := PySem.W.mg_none_of X G b_isinstance, b_len := PySem.W.mg_none_of X G b_len, b_list := PySem.W.mg_none_of X G b_list, b_max := PySem.W.mg_none_of X G b_max, b_min := PySem.W.mg_none_of X G b_min, b_range := PySem.W.mg_none_of X G b_range, b_repr := PySem.W.mg_none_of X G b_repr, b_reversed := PySem.W.mg_none_of X G b_reversed, b_set := PySem.W.mg_none_of X G b_set, b_sorted := PySem.W.mg_none_of X G b_sorted, b_str := PySem.W.mg_none_of X G b_str, b_sum := PySem.W.mg_none_of X G b_sum, b_tuple := PySem.W.mg_none_of X G b_tuple, b_zip := PySem.W.mg_none_of X G b_zip }
  have C : Cn K mg := { c_HALF := ⟨_, PySem.W.mg_of X G c_HALF⟩, c_WHOLE := ⟨_, PySem.W.mg_of X G c_WHOLE⟩ }
  have T0 := fun_mk (st := s_wrap) l0 c0 k0
  have T1 := fun_mk (st := s_operate) l1 c1 k1
  have T2 := fun_mk (st := s__law_cell) l2 c2 k2
  have T3 := fun_mk (st := s__law_integer) l3 c3 k3
  have T4 := fun_mk (st := s__law_wrapped) l4 c4 k4
  have T5 := fun_mk (st := s__law_exactly) l5 c5 k5
  have T6 := fun_mk (st := s_law) l6 c6 k6
  have B0 := T0.binds (ps := ["number"]) fun _ _ _ _ _ _ us hl => match us, hl with | [_], _ => rfl
  have B1 := T1.binds (ps := ["name", "a", "b"]) fun _ _ _ _ _ _ us hl => match us, hl with | [_, _, _], _ => rfl
  have B2 := T2.binds (ps := ["script", "k"]) fun _ _ _ _ _ _ us hl => match us, hl with | [_, _], _ => rfl
  have B3 := T3.binds (ps := ["script", "k"]) fun _ _ _ _ _ _ us hl => match us, hl with | [_, _], _ => rfl
  have B4 := T4.binds (ps := ["actual", "number"]) fun _ _ _ _ _ _ us hl => match us, hl with | [_, _], _ => rfl
  have B5 := T5.binds (ps := ["actual", "due"]) fun _ _ _ _ _ _ us hl => match us, hl with | [_, _], _ => rfl
  have B6 := T6.binds (ps := ["script"]) fun _ _ _ _ _ _ us hl => match us, hl with | [_], _ => rfl
  refine ⟨PySem.W.fnOf "law" "law" (defArgs s_law) (defBody s_law) (defScope s_law) .none kV6 dc6 pm6 an6 cd6 ct6, fun s v => .of_eq rfl, fun base _ _ => ?_⟩
  have H__law_cell : Has P w K mg base CX0 1 "_law_cell" ["script", "k"] f__law_cell := Has.of (ok__law_cell bn C T2) (PySem.W.mg_of X G a2) k2 B2
  have H__law_integer : Has P w K mg base CX0 2 "_law_integer" ["script", "k"] f__law_integer := Has.of (ok__law_integer bn C T3 H__law_cell) (PySem.W.mg_of X G a3) k3 B3
  have H_wrap : Has P w K mg base CX0 1 "wrap" ["number"] f_wrap := Has.of (ok_wrap bn C T0) (PySem.W.mg_of X G a0) k0 B0
  have H__law_exactly : Has P w K mg base CX0 1 "_law_exactly" ["actual", "due"] f__law_exactly := Has.of (ok__law_exactly bn C T5) (PySem.W.mg_of X G a5) k5 B5
  have H__law_wrapped : Has P w K mg base CX0 1 "_law_wrapped" ["actual", "number"] f__law_wrapped := Has.of (ok__law_wrapped bn C T4) (PySem.W.mg_of X G a4) k4 B4
  have H_operate : Has P w K mg base CX0 2 "operate" ["name", "a", "b"] f_operate := Has.of (ok_operate bn C T1 H_wrap) (PySem.W.mg_of X G a1) k1 B1
  exact ok_law bn C T6 H__law_integer H_wrap H__law_exactly H__law_wrapped H_operate H__law_cell
theorem walk {l : PySem.W.OpenLaw} {q : Program} {loose : List Str} {XP : (Str → Option Value) → Heap → Prop} {YP : World → Heap → Prop} {d : DefRec} {K : Params → PySem.W.Frag} (hn : l.most = some 63) (hdf : d.params.defaults = [])
    (hY : ∀ (w : World) (h : Heap), YP w h → (K w.params).In h)
    (F : ∀ (w : World) (mg : Str → Option Value) (fa : Addr) (h : Heap), (K w.params).In h → h.Ns mainGlobals mg → mg d.name = some (.ref fa) →
      ∃ fd : FuncData, (∀ (s : Shared) (u : Value), BindsTo s fd ⟨[u], []⟩ [("script", u)]) ∧ ∀ base : Heap, (K w.params).In base → base.Ns mainGlobals mg → FnOk l.prog w (K w.params) mg base CX0 3 fa fd ["script"] (spD (K w.params) 1 f_law)) :
    PySem.W.WalkO q loose XP YP l.row.toRowW d [] (fun f vs => PySem.call f vs) :=
  L2.walk_ofB (n := 63) (k := 3) (x := "script") (CX := fun _ => CX0) (sp := fun w => spD (K w.params) 1 f_law) hn (by decide) hdf ⟨rfl, by decide, by decide⟩ hY F (fun _ _ a ns hl hb _ hS => law_sp hS fun Φ Ψ k => law_pre hl hb k) fun _ _ _ _ _ z => z
end T
open PySem PySem.W PyProof.Rows
set_option maxRecDepth 100000 in
set_option maxHeartbeats 0 in
theorem PySem.Challenge.cw_selfloom_k50_wrapped_operations_holds : PySem.Challenge.rw_selfloom_k50_wrapped_operations.Holds := by
  w_on; o_law; k_head; (case hw => w_witness2)
  k_fill
  refine T.walk (l := PySem.Challenge.rw_selfloom_k50_wrapped_operations) rfl rfl (fun w h Y => PySem.W.kIn_of Y) ?F
  case F =>
    intro w mg fa h KX G hmg
    refine' T.all_mk KX G hmg ?a0 ?l0 ?c0 ?k0 ?a1 ?l1 ?c1 ?k1 ?a2 ?l2 ?c2 ?k2 ?a3 ?l3 ?c3 ?k3 ?a4 ?l4 ?c4 ?k4 ?a5 ?l5 ?c5 ?k5 ?a6 ?l6 ?c6 ?k6 ?b_abs ?b_all ?b_any ?b_bool ?b_dict ?b_enumerate ?b_int ?b_isinstance ?b_len ?b_list ?b_max ?b_min ?b_range ?b_repr ?b_reversed ?b_set ?b_sorted ?b_str ?b_sum ?b_tuple ?b_zip ?c_HALF ?c_WHOLE
    (case a0 => k_is)
    (case l0 => k_is)
    (case c0 => k_is)
    (case k0 => k_is)
    (case a1 => k_is)
    (case l1 => k_is)
    (case c1 => k_is)
    (case k1 => k_is)
    (case a2 => k_is)
    (case l2 => k_is)
    (case c2 => k_is)
    (case k2 => k_is)
    (case a3 => k_is)
    (case l3 => k_is)
    (case c3 => k_is)
    (case k3 => k_is)
    (case a4 => k_is)
    (case l4 => k_is)
    (case c4 => k_is)
    (case k4 => k_is)
    (case a5 => k_is)
    (case l5 => k_is)
    (case c5 => k_is)
    (case k5 => k_is)
    (case a6 => k_is)
    (case l6 => k_is)
    (case c6 => k_is)
    (case k6 => k_is)
    (case b_abs => k_is)
    (case b_all => k_is)
    (case b_any => k_is)
    (case b_bool => k_is)
    (case b_dict => k_is)
    (case b_enumerate => k_is)
    (case b_int => k_is)
    (case b_isinstance => k_is)
    (case b_len => k_is)
    (case b_list => k_is)
    (case b_max => k_is)
    (case b_min => k_is)
    (case b_range => k_is)
    (case b_repr => k_is)
    (case b_reversed => k_is)
    (case b_set => k_is)
    (case b_sorted => k_is)
    (case b_str => k_is)
    (case b_sum => k_is)
    (case b_tuple => k_is)
    (case b_zip => k_is)
    (case c_HALF => k_is)
    (case c_WHOLE => k_is)

