import PyProof.Rows.All
import Wide.All
import OpenK.AllK
import Wide.FinOn
import HandS.Base
import HandS.Call
import HandS.List
import HandS.Comp
import HandS.Ends
import HandS.Dict
import HandS.Iter
import HandS.Text
import HandS.Words
import HandS.IsInst
import HandS.Wide
import HandS.EndBits
import HandS.TupAny
import HandS.TupMul
import HandS.More
import HandS.ExcOwn
import HandS.ExcIs
import HandS.TryOnly
import HandS.TryMany
import HandS.WordsExc
import HandS.ExcBuiltin
import HandS.Style
import KE.KRevSl
import PySem.Challenge.RW_selfloom_k07_edits
set_option Elab.async false
set_option linter.all false
set_option maxRecDepth 100000
set_option maxHeartbeats 4000000
/-! Y: readings over data. A slot holds frozen data (z d) or names an owned object (r i); owned objects are kept apart from the ghost heap G, in which all frozen data stands. -/
namespace Y
open PySem L2

theorem kept_trans {H H1 H2 : Hp} (a : Same H H1) (b : Same H1 H2) : Same H H2 := fun c o h => b c o (a c o h)
theorem kept_new {H : Hp} {p : Addr} {o : HO} (h : H p = none) : Same H (upd H p o) := fun a u e => by
  rw [upd_ne (ne_of_none e h)]; exact e
theorem kept_rd {H H' : Hp} {a : Addr} {u : HO} (e : Same H H') (h : Rd H a u) : Rd H' a u := by
  rcases h with h | ⟨o, h⟩
  · exact Or.inl (e a _ h)
  · exact Or.inr ⟨o, e a _ h⟩
theorem kept_l {K : PySem.W.Frag} {H H' : Hp} {a : Addr} {xs : List V} (e : Same H H') (h : SqL K H a xs) : SqL K H' a xs := by
  rcases h with h | h
  · exact Or.inl (kept_rd e h)
  · exact Or.inr h
theorem kept_t {K : PySem.W.Frag} {H H' : Hp} {a : Addr} {xs : List V} (e : Same H H') (h : SqT K H a xs) : SqT K H' a xs := by
  rcases h with h | h
  · exact Or.inl (kept_rd e h)
  · exact Or.inr h
mutual
theorem dp_up {K : PySem.W.Frag} {H H' : Hp} (e : Same H H') : ∀ (d : PyData) (v : V), Dp K H v d → Dp K H' v d
  | .none, _, h => by cases h; exact .non
  | .bool b, _, h => by cases h; exact .bl b
  | .int i, _, h => by cases h; exact .int i
  | .str x, _, h => by cases h; exact .str x
  | .list ds, _, h => by
    cases h with
    | lst hs ha => exact .lst (kept_l e hs) (dps_up e ds _ ha)
  | .tuple ds, _, h => by
    cases h with
    | tup hs ha => exact .tup (kept_t e hs) (dps_up e ds _ ha)
  | .dict _, _, h => by cases h
theorem dps_up {K : PySem.W.Frag} {H H' : Hp} (e : Same H H') : ∀ (ds : List PyData) (vs : List V), DpAll K H vs ds → DpAll K H' vs ds
  | [], _, h => by cases h; exact .nil
  | d :: ds, _, h => by
    cases h with
    | cons h1 h2 => exact .cons (dp_up e d _ h1) (dps_up e ds _ h2)
end

/-- what a slot, or a place of an owned list, holds -/
inductive OE where
  | z (d : PyData)
  | r (i : Nat)
  | e (a : Addr)
/-- an owned object -/
inductive OD where
  | gone
  | lst (xs : List OE)
  | dK (kvs : List (Key × OE))
structure Gh where
  G : Hp
  H : Hp
  sub : Same G H
structure En where
  sl : List (Option OE)
  ow : List OD

section
variable (K : PySem.W.Frag)
def OeR (G : Hp) (ρ : List Addr) : OE → V → Prop
  | .z d, v => Dp K G v d
  | .r i, v => ∃ a, ρ[i]? = some a ∧ v = .ref a
  | .e a, v => v = .ref a
abbrev OesR (G : Hp) (ρ : List Addr) (xs : List OE) (vs : List V) : Prop := Paired (OeR K G ρ) xs vs
def OdR (G : Hp) (ρ : List Addr) (o : Option HO) : OD → Prop
  | .gone => True
  | .lst xs => ∃ vs, o = some (.lst vs) ∧ OesR K G ρ xs vs
  | .dK kvs => ∃ ws, o = some (.dK ws) ∧ Paired (fun (p : Key × OE) (q : Key × V) => p.1 = q.1 ∧ OeR K G ρ p.2 q.2) kvs ws
structure Own (s : Gh) (ρ : List Addr) (ow : List OD) : Prop where
  len : ρ.length = ow.length
  nd : ρ.Nodup
  ex : ∀ (i : Nat) (a : Addr), ρ[i]? = some a → s.H a ≠ none
  rep : ∀ (i : Nat) (a : Addr) (o : OD), ρ[i]? = some a → ow[i]? = some o → o ≠ .gone → s.G a = none ∧ OdR K s.G ρ (s.H a) o
structure Bs where
  G : Hp
  H : Hp
  io : List Addr
structure Fr (B : Bs) (s : Gh) (ρ : List Addr) : Prop where
  io : ∃ t, ρ = B.io ++ t ∧ ∀ a ∈ t, B.H a = none
  h : ∀ a o, a ∉ B.io → B.H a = some o → s.H a = some o
  p : ∀ a, B.H a ≠ none → s.H a ≠ none
  g : Same B.G s.G
  n : ∀ a, B.H a ≠ none → s.G a = B.G a
structure Sat (B : Bs) (σ : St) (s : Gh) (ρ : List Addr) (E : En) : Prop where
  own : Own K s ρ E.ow
  fr : Fr B s ρ
  len : σ.length = E.sl.length
  sl : ∀ (i : Nat) (x : OE), E.sl[i]? = some (some x) → ∃ v, σ[i]? = some (some v) ∧ OeR K s.G ρ x v
end
structure Step (s : Gh) (ρ : List Addr) (s' : Gh) (ρ' : List Addr) : Prop where
  g : Same s.G s'.G
  r : ∃ t, ρ' = ρ ++ t
theorem Step.refl (s : Gh) (ρ : List Addr) : Step s ρ s ρ := ⟨fun _ _ h => h, [], by simp⟩
theorem Step.trans {s s1 s2 : Gh} {ρ ρ1 ρ2 : List Addr} (a : Step s ρ s1 ρ1) (b : Step s1 ρ1 s2 ρ2) : Step s ρ s2 ρ2 := by
  obtain ⟨t, e⟩ := a.r
  obtain ⟨t', e'⟩ := b.r
  exact ⟨kept_trans a.g b.g, t ++ t', by rw [e', e, List.append_assoc]⟩

section
variable {K : PySem.W.Frag} {G G' : Hp} {ρ ρ' : List Addr}
theorem ix_app {α : Type} {l t : List α} {i : Nat} {a : α} (h : l[i]? = some a) : (l ++ t)[i]? = some a := by
  rw [List.getElem?_append_left (List.getElem?_eq_some_iff.mp h).1]; exact h
theorem oe_up (e : Same G G') (r : ∃ t, ρ' = ρ ++ t) {x : OE} {v : V} (h : OeR K G ρ x v) : OeR K G' ρ' x v := by
  cases x with
  | z d => exact dp_up e d v h
  | r i =>
    obtain ⟨a, ha, hv⟩ := h
    obtain ⟨t, rfl⟩ := r
    exact ⟨a, ix_app ha, hv⟩
  | e a => exact h
theorem paired_up {α β : Type} {F F' : α → β → Prop} : ∀ {xs : List α} {ys : List β}, Paired F xs ys → (∀ a b, F a b → F' a b) → Paired F' xs ys
  | _, _, .nil, _ => .nil
  | _, _, .cons r t, f => .cons (f _ _ r) (paired_up t f)
theorem oes_up (e : Same G G') (r : ∃ t, ρ' = ρ ++ t) {xs : List OE} {vs : List V} (h : OesR K G ρ xs vs) : OesR K G' ρ' xs vs :=
  paired_up h fun _ _ q => oe_up e r q
theorem od_up (e : Same G G') (r : ∃ t, ρ' = ρ ++ t) {o : Option HO} {x : OD} (h : OdR K G ρ o x) : OdR K G' ρ' o x := by
  cases x with
  | gone => trivial
  | lst xs =>
    obtain ⟨vs, h1, h2⟩ := h
    exact ⟨vs, h1, oes_up e r h2⟩
  | dK kvs =>
    obtain ⟨ws, h1, h2⟩ := h
    exact ⟨ws, h1, paired_up h2 fun _ _ q => ⟨q.1, oe_up e r q.2⟩⟩
/-- frozen items are a list's data, and back -/
theorem dps_of : ∀ {ds : List PyData} {vs : List V}, OesR K G ρ (ds.map .z) vs → DpAll K G vs ds
  | [], _, .nil => .nil
  | _ :: _, _, .cons r t => .cons r (dps_of t)
theorem of_dps : ∀ {ds : List PyData} {vs : List V}, DpAll K G vs ds → OesR K G ρ (ds.map .z) vs
  | [], _, .nil => .nil
  | _ :: _, _, .cons r t => .cons r (of_dps t)
theorem paired_get {α β : Type} {F : α → β → Prop} : ∀ {xs : List α} {ys : List β} {i : Nat} {y : β}, Paired F xs ys → ys[i]? = some y → ∃ x, xs[i]? = some x ∧ F x y
  | _, _, _, _, .nil, e => by simp at e
  | _, _, 0, _, .cons r _, e => by simp at e; subst e; exact ⟨_, rfl, r⟩
  | _, _, i + 1, x, .cons _ t, e => by
    obtain ⟨u, h1, h2⟩ := paired_get (i := i) t (by simpa using e)
    exact ⟨u, by simpa using h1, h2⟩
theorem paired_get' {α β : Type} {F : α → β → Prop} : ∀ {xs : List α} {ys : List β} {i : Nat} {x : α}, Paired F xs ys → xs[i]? = some x → ∃ y, ys[i]? = some y ∧ F x y
  | _, _, _, _, .nil, e => by simp at e
  | _, _, 0, _, .cons r _, e => by simp at e; subst e; exact ⟨_, rfl, r⟩
  | _, _, i + 1, x, .cons _ t, e => by
    obtain ⟨u, h1, h2⟩ := paired_get' (i := i) t (by simpa using e)
    exact ⟨u, by simpa using h1, h2⟩
theorem paired_append {α β : Type} {F : α → β → Prop} : ∀ {xs xs' : List α} {ys ys' : List β}, Paired F xs ys → Paired F xs' ys' → Paired F (xs ++ xs') (ys ++ ys')
  | _, _, _, _, .nil, h => h
  | _, _, _, _, .cons r t, h => .cons r (paired_append t h)
theorem paired_len {α β : Type} {F : α → β → Prop} {xs : List α} {ys : List β} (h : Paired F xs ys) : xs.length = ys.length := Paired.length h

/-! ### states -/
variable {B : Bs} {σ : St} {s : Gh} {E : En}
theorem Sat.fresh (S : Sat K B σ s ρ E) {p : Addr} (h : s.H p = none) : s.G p = none ∧ p ∉ ρ := by
  refine ⟨?_, fun hp => ?_⟩
  · cases e : s.G p with
    | none => rfl
    | some o => rw [s.sub p o e] at h; cases h
  · obtain ⟨i, hi⟩ := List.getElem?_of_mem hp
    exact S.own.ex i p hi h
/-- new frozen object -/
def Gh.newZ (s : Gh) (p : Addr) (o : HO) : Gh := ⟨upd s.G p o, upd s.H p o, fun a u e => by
  by_cases h : a = p
  · subst h; rw [upd_same] at e ⊢; exact e
  · rw [upd_ne h] at e ⊢; exact s.sub a u e⟩
/-- new owned object; an owned object changes -/
def Gh.newO (s : Gh) (p : Addr) (o : HO) (h : s.G p = none) : Gh := ⟨s.G, upd s.H p o, fun a u e => by
  rw [upd_ne (ne_of_none e h)]; exact s.sub a u e⟩
/-- an owned object is frozen -/
def Gh.ice (s : Gh) (p : Addr) (o : HO) (h : s.H p = some o) : Gh := ⟨upd s.G p o, s.H, fun a u e => by
  by_cases q : a = p
  · subst q; rw [upd_same] at e; rw [h]; exact e
  · rw [upd_ne q] at e; exact s.sub a u e⟩
theorem stepZ (s : Gh) (ρ : List Addr) {p : Addr} (o : HO) (h : s.G p = none) : Step s ρ (s.newZ p o) ρ := ⟨kept_new h, [], by simp⟩
theorem Sat.newZ (S : Sat K B σ s ρ E) {p : Addr} (h : s.H p = none) (o : HO) : Sat K B σ (s.newZ p o) ρ E := by
  obtain ⟨hg, hr⟩ := S.fresh h
  have up : Same s.G (s.newZ p o).G := kept_new hg
  refine ⟨⟨S.own.len, S.own.nd, fun i a e => ?_, fun i a x e1 e2 e3 => ?_⟩, ⟨S.fr.io, fun a u n e => ?_, fun a e => ?_, kept_trans S.fr.g up, fun a e => ?_⟩, S.len, fun i x e => ?_⟩
  · have : a ≠ p := fun q => by subst q; exact hr (List.mem_of_getElem? e)
    show upd s.H p o a ≠ none
    rw [upd_ne this]; exact S.own.ex i a e
  · have : a ≠ p := fun q => by subst q; exact hr (List.mem_of_getElem? e1)
    obtain ⟨r1, r2⟩ := S.own.rep i a x e1 e2 e3
    refine ⟨?_, ?_⟩
    · show upd s.G p o a = none
      rw [upd_ne this]; exact r1
    · show OdR K (upd s.G p o) ρ (upd s.H p o a) x
      rw [upd_ne this]; exact od_up up ⟨[], by simp⟩ r2
  · show upd s.H p o a = some u
    have q := S.fr.h a u n e
    rw [upd_ne (ne_of_none q h)]; exact q
  · show upd s.H p o a ≠ none
    by_cases q : a = p
    · subst q; rw [upd_same]; exact fun z => nomatch z
    · rw [upd_ne q]; exact S.fr.p a e
  · show upd s.G p o a = B.G a
    have q : a ≠ p := fun q => by subst q; exact S.fr.p a e h
    rw [upd_ne q]; exact S.fr.n a e
  · obtain ⟨v, h1, h2⟩ := S.sl i x e
    exact ⟨v, h1, oe_up up ⟨[], by simp⟩ h2⟩
theorem Sat.newO (S : Sat K B σ s ρ E) {p : Addr} (h : s.H p = none) {o : HO} {d : OD} (hd : OdR K s.G (ρ ++ [p]) (some o) d) :
    Sat K B σ (s.newO p o (S.fresh h).1) (ρ ++ [p]) ⟨E.sl, E.ow ++ [d]⟩ := by
  obtain ⟨hg, hr⟩ := S.fresh h
  have rr : ∃ t, ρ ++ [p] = ρ ++ t := ⟨[p], rfl⟩
  refine ⟨⟨by simp [S.own.len], ?_, fun i a e => ?_, fun i a x e1 e2 e3 => ?_⟩, ⟨?_, fun a u n e => ?_, fun a e => ?_, S.fr.g, S.fr.n⟩, S.len, fun i x e => ?_⟩
  · refine List.nodup_append.mpr ⟨S.own.nd, by simp, fun a ha b hb => ?_⟩
    simp at hb; subst hb; exact fun q => hr (q ▸ ha)
  · show upd s.H p o a ≠ none
    by_cases q : a = p
    · subst q; rw [upd_same]; exact fun z => nomatch z
    · rw [upd_ne q]
      rw [List.getElem?_append] at e
      split at e
      · exact S.own.ex i a e
      · rename_i hi
        cases hj : i - ρ.length with
        | zero => rw [hj] at e; simp at e; exact absurd e.symm q
        | succ j => rw [hj] at e; simp at e
  · show s.G a = none ∧ OdR K s.G (ρ ++ [p]) (upd s.H p o a) x
    rw [List.getElem?_append] at e1
    split at e1
    · rename_i hi
      have e2' : E.ow[i]? = some x := by
        have e2' : (E.ow ++ [d])[i]? = some x := e2
        rw [List.getElem?_append_left (by rw [← S.own.len]; exact hi)] at e2'; exact e2'
      obtain ⟨r1, r2⟩ := S.own.rep i a x e1 e2' e3
      have : a ≠ p := fun q => by subst q; exact hr (List.mem_of_getElem? e1)
      rw [upd_ne this]
      exact ⟨r1, od_up (fun _ _ z => z) rr r2⟩
    · rename_i hi
      have hi' : ρ.length ≤ i := Nat.le_of_not_lt hi
      cases hj : i - ρ.length with
      | zero =>
        rw [hj] at e1; simp at e1
        subst e1
        have e2' : (E.ow ++ [d])[i]? = some x := e2
        have : i = E.ow.length := by rw [← S.own.len]; omega
        subst this
        simp at e2'
        subst e2'
        rw [upd_same]
        exact ⟨hg, hd⟩
      | succ j => rw [hj] at e1; simp at e1
  · obtain ⟨t, e1, e2⟩ := S.fr.io
    refine ⟨t ++ [p], by rw [e1, List.append_assoc], fun a ha => ?_⟩
    rcases List.mem_append.mp ha with q | q
    · exact e2 a q
    · simp at q; subst q
      cases e : B.H a with
      | none => rfl
      | some o => exact absurd h (S.fr.p a (by rw [e]; exact fun z => nomatch z))
  · show upd s.H p o a = some u
    have q := S.fr.h a u n e
    rw [upd_ne (ne_of_none q h)]; exact q
  · show upd s.H p o a ≠ none
    by_cases q : a = p
    · subst q; rw [upd_same]; exact fun z => nomatch z
    · rw [upd_ne q]; exact S.fr.p a e
  · obtain ⟨v, h1, h2⟩ := S.sl i x e
    exact ⟨v, h1, oe_up (fun _ _ z => z) rr h2⟩
/-- an owned object changes -/
theorem Sat.put (S : Sat K B σ s ρ E) {i : Nat} {p : Addr} {o : HO} {d d' : OD} (hp : ρ[i]? = some p) (hd : E.ow[i]? = some d) (hn : d ≠ .gone) (hd' : OdR K s.G ρ (some o) d') :
    Sat K B σ (s.newO p o (S.own.rep i p d hp hd hn).1) ρ ⟨E.sl, E.ow.set i d'⟩ := by
  refine ⟨⟨by simp [S.own.len], S.own.nd, fun j a e => ?_, fun j a x e1 e2 e3 => ?_⟩, ⟨S.fr.io, fun a u n e => ?_, fun a e => ?_, S.fr.g, S.fr.n⟩, S.len, S.sl⟩
  · show upd s.H p o a ≠ none
    by_cases q : a = p
    · subst q; rw [upd_same]; exact fun z => nomatch z
    · rw [upd_ne q]; exact S.own.ex j a e
  · show s.G a = none ∧ OdR K s.G ρ (upd s.H p o a) x
    have e2' : (E.ow.set i d')[j]? = some x := e2
    by_cases hj : j = i
    · subst hj
      rw [hp] at e1; cases e1
      have hl : j < E.ow.length := by rw [← S.own.len]; exact (List.getElem?_eq_some_iff.mp hp).1
      rw [List.getElem?_set_self hl] at e2'
      cases e2'
      rw [upd_same]
      exact ⟨(S.own.rep j p d hp hd hn).1, hd'⟩
    · rw [List.getElem?_set_ne (Ne.symm hj)] at e2'
      obtain ⟨r1, r2⟩ := S.own.rep j a x e1 e2' e3
      have : a ≠ p := fun q => by
        subst q
        obtain ⟨h1, h1'⟩ := List.getElem?_eq_some_iff.mp hp
        obtain ⟨h2, h2'⟩ := List.getElem?_eq_some_iff.mp e1
        exact hj ((List.getElem_inj S.own.nd).mp (by rw [h1', h2'])).symm
      rw [upd_ne this]
      exact ⟨r1, r2⟩
  · show upd s.H p o a = some u
    have q := S.fr.h a u n e
    have : a ≠ p := fun z => by
      subst z
      obtain ⟨t, e1, e2⟩ := S.fr.io
      have hm := List.mem_of_getElem? hp
      rw [e1] at hm
      rcases List.mem_append.mp hm with z | z
      · exact n z
      · rw [e2 a z] at e; cases e
    rw [upd_ne this]; exact q
  · show upd s.H p o a ≠ none
    by_cases q : a = p
    · subst q; rw [upd_same]; exact fun z => nomatch z
    · rw [upd_ne q]; exact S.fr.p a e
end
end Y

/-! Y2: what an expression gives, over data -/
namespace Y
open PySem L2
section
variable (K : PySem.W.Frag) (B : Bs)
/-- te, from E, gives x and leaves E' -/
def Ev (te : TE) (E : En) (x : OE) (E' : En) : Prop := ∀ σ s ρ, Sat K B σ s ρ E → ∀ Q : VK,
  (∀ v s' ρ', Step s ρ s' ρ' → Sat K B σ s' ρ' E' → OeR K s'.G ρ' x v → Q v s'.H) → te σ s.H Q
def EvA (ta : TA) (E : En) (xs : List OE) (E' : En) : Prop := ∀ σ s ρ, Sat K B σ s ρ E → ∀ Q : List V → Hp → Prop,
  (∀ vs s' ρ', Step s ρ s' ρ' → Sat K B σ s' ρ' E' → OesR K s'.G ρ' xs vs → Q vs s'.H) → ta σ s.H Q
def EvT (tt : TT) (E : En) (b : Bool) (E' : En) : Prop := ∀ σ s ρ, Sat K B σ s ρ E → ∀ Q : Bool → Hp → Prop,
  (∀ s' ρ', Step s ρ s' ρ' → Sat K B σ s' ρ' E' → Q b s'.H) → tt σ s.H Q
/-- a new list of these is being made -/
def EvN (te : TE) (E : En) (xs : List OE) (E' : En) : Prop := ∀ σ s ρ, Sat K B σ s ρ E → ∀ Q : VK,
  (∀ vs s' ρ', Step s ρ s' ρ' → Sat K B σ s' ρ' E' → OesR K s'.G ρ' xs vs → ∀ p, s'.H p = none → Q (.ref p) (upd s'.H p (.lst vs))) → te σ s.H Q
end
/-- x can be read as the data d, as a list of xs, as a tuple of xs -/
inductive RdO (E : En) : OE → PyData → Prop
  | z {d} : RdO E (.z d) d
  | r {i ds} (h : E.ow[i]? = some (.lst (ds.map .z))) : RdO E (.r i) (.list ds)
inductive SqO (E : En) : OE → List OE → Prop
  | z {ds} : SqO E (.z (.list ds)) (ds.map .z)
  | r {i xs} (h : E.ow[i]? = some (.lst xs)) : SqO E (.r i) xs
/-- a value that is this data wherever it stands -/
def Ever (K : PySem.W.Frag) (v : V) (d : PyData) : Prop := ∀ G, Dp K G v d
section
variable {K : PySem.W.Frag} {B : Bs} {E E1 E2 E3 : En} {ta tb tc te : TE} {t u : TT} {x y z : OE} {d d1 d2 : PyData} {r r' : R2} {xs ys : List OE} {ar : TA} {b c : Bool}
theorem ever_int (i : Int) : Ever K (.int i) (.int i) := fun _ => .int i
theorem ever_str (i : Str) : Ever K (.str i) (.str i) := fun _ => .str i
theorem ever_bl (i : Bool) : Ever K (.bl i) (.bool i) := fun _ => .bl i
theorem ever_non : Ever K .non .none := fun _ => .non
theorem oe_ever {v : V} {G : Hp} {ρ : List Addr} (h : Ever K v d) : OeR K G ρ (.z d) v := h G
theorem dp_int {G : Hp} {v : V} {i : Int} (h : Dp K G v (.int i)) : v = .int i := by cases h; rfl
theorem dp_str {G : Hp} {v : V} {i : Str} (h : Dp K G v (.str i)) : v = .str i := by cases h; rfl
theorem dp_bl {G : Hp} {v : V} {i : Bool} (h : Dp K G v (.bool i)) : v = .bl i := by cases h; rfl
theorem dp_non {G : Hp} {v : V} (h : Dp K G v .none) : v = .non := by cases h; rfl
theorem rd_dp {σ : St} {s : Gh} {ρ : List Addr} {v : V} (S : Sat K B σ s ρ E) (h : RdO E x d) (hv : OeR K s.G ρ x v) : Dp K s.H v d := by
  cases h with
  | z => exact dp_up s.sub _ _ hv
  | r h =>
    obtain ⟨a, h1, rfl⟩ := hv
    obtain ⟨_, vs, h3, h4⟩ := S.own.rep _ a _ h1 h (fun q => nomatch q)
    exact .lst (SqL.of h3) (dps_up s.sub _ _ (dps_of h4))
theorem sq_dp {σ : St} {s : Gh} {ρ : List Addr} {v : V} (S : Sat K B σ s ρ E) (h : SqO E x xs) (hv : OeR K s.G ρ x v) : ∃ a vs, v = .ref a ∧ SqL K s.H a vs ∧ OesR K s.G ρ xs vs := by
  cases h with
  | z =>
    have hv' : Dp K s.G v _ := hv
    cases hv' with
    | lst hs ha => exact ⟨_, _, rfl, kept_l s.sub hs, of_dps ha⟩
  | r h =>
    obtain ⟨a, h1, rfl⟩ := hv
    obtain ⟨_, vs, h3, h4⟩ := S.own.rep _ a _ h1 h (fun q => nomatch q)
    exact ⟨a, vs, rfl, SqL.of h3, h4⟩
theorem tq_dp {s : Gh} {ρ : List Addr} {v : V} {ds : List PyData} (hv : OeR K s.G ρ (.z (.tuple ds)) v) : ∃ a vs, v = .ref a ∧ SqT K s.H a vs ∧ OesR K s.G ρ (ds.map .z) vs := by
  have hv' : Dp K s.G v _ := hv
  cases hv' with
  | tup hs ha => exact ⟨_, _, rfl, kept_t s.sub hs, of_dps ha⟩

/-! ### names, constants -/
theorem ev_var {i : Nat} (h : E.sl[i]? = some (some x)) : Ev K B (tVar i) E x E := fun σ s ρ S Q q => by
  obtain ⟨v, h1, h2⟩ := S.sl i x h
  exact ⟨v, h1, q v s ρ (.refl _ _) S h2⟩
theorem ev_c {v : V} (h : Ever K v d) : Ev K B (tC v) E (.z d) E := fun σ s ρ S Q q => q v s ρ (.refl _ _) S (h s.G)
theorem ev_int {i : Int} : Ev K B (tC (.int i)) E (.z (.int i)) E := ev_c (ever_int i)
theorem ev_str {i : Str} : Ev K B (tC (.str i)) E (.z (.str i)) E := ev_c (ever_str i)
theorem ev_bl {i : Bool} : Ev K B (tC (.bl i)) E (.z (.bool i)) E := ev_c (ever_bl i)
theorem ev_non : Ev K B (tC .non) E (.z .none) E := ev_c ever_non
theorem ev_is {z' : OE} {E' : En} (h : Ev K B te E z E1) (e : z = z') (e' : E1 = E') : Ev K B te E z' E' := by subst e; subst e'; exact h
/-! ### argument lists, displays -/
theorem ea_nil : EvA K B tNil E [] E := fun σ s ρ S Q q => q [] s ρ (.refl _ _) S .nil
theorem ea_cons (h : Ev K B ta E x E1) (hr : EvA K B ar E1 xs E2) : EvA K B (tCons ta ar) E (x :: xs) E2 := fun σ s ρ S Q q =>
  h σ s ρ S _ fun v s1 ρ1 T1 S1 o1 => hr σ s1 ρ1 S1 _ fun vs s2 ρ2 T2 S2 o2 => q (v :: vs) s2 ρ2 (T1.trans T2) S2 (.cons (oe_up T2.g T2.r o1) o2)
theorem ev_tup {ds : List PyData} (h : EvA K B ar E (ds.map .z) E1) (hl : ds.length ≤ 100000) : Ev K B (tTup ar) E (.z (.tuple ds)) E1 := fun σ s ρ S Q q =>
  h σ s ρ S _ fun vs s1 ρ1 T1 S1 o1 => ⟨by rw [← paired_len o1, List.length_map]; exact Nat.le_trans hl (by decide), fun p hp => by
    have hg := (S1.fresh hp).1
    refine q (.ref p) (s1.newZ p (.tup vs)) ρ1 (T1.trans (stepZ _ _ _ hg)) (S1.newZ hp _) ?_
    exact .tup (SqT.of (show upd s1.G p _ p = _ from upd_same)) (dps_up (kept_new hg) _ _ (dps_of o1))⟩
theorem en_lst (h : EvA K B ar E xs E1) (hl : xs.length ≤ 100000) : EvN K B (tLst ar) E xs E1 := fun σ s ρ S Q q =>
  h σ s ρ S _ fun vs s1 ρ1 T1 S1 o1 => ⟨by rw [← paired_len o1]; exact Nat.le_trans hl (by decide), fun p hp => q vs s1 ρ1 T1 S1 o1 p hp⟩
/-- the new list is frozen | owned -/
theorem ev_Z {ds : List PyData} (h : EvN K B te E (ds.map .z) E1) : Ev K B te E (.z (.list ds)) E1 := fun σ s ρ S Q q =>
  h σ s ρ S _ fun vs s1 ρ1 T1 S1 o1 p hp => by
    have hg := (S1.fresh hp).1
    refine q (.ref p) (s1.newZ p (.lst vs)) ρ1 (T1.trans (stepZ _ _ _ hg)) (S1.newZ hp _) ?_
    exact .lst (SqL.of (show upd s1.G p _ p = _ from upd_same)) (dps_up (kept_new hg) _ _ (dps_of o1))
theorem ev_O (h : EvN K B te E xs E1) : Ev K B te E (.r E1.ow.length) ⟨E1.sl, E1.ow ++ [.lst xs]⟩ := fun σ s ρ S Q q =>
  h σ s ρ S _ fun vs s1 ρ1 T1 S1 o1 p hp => by
    have hg := (S1.fresh hp).1
    have rr : ∃ t, ρ1 ++ [p] = ρ1 ++ t := ⟨[p], rfl⟩
    refine q (.ref p) (s1.newO p (.lst vs) hg) (ρ1 ++ [p]) (T1.trans ⟨fun _ _ z => z, rr⟩) (S1.newO hp (d := .lst xs) ⟨vs, rfl, oes_up (fun _ _ z => z) rr o1⟩) ⟨p, ?_, rfl⟩
    rw [← S1.own.len]; simp

/-! ### operators -/
def Sc2 (K : PySem.W.Frag) (r : R2) (d1 d2 d : PyData) : Prop := ∀ H x y, Dp K H x d1 → Dp K H y d2 → ∀ Q : VK, (∀ v, Ever K v d → Q v H) → r x y H Q
theorem ev_op (ha : Ev K B ta E x E1) (hb : Ev K B tb E1 y E2) (h1 : RdO E2 x d1) (h2 : RdO E2 y d2) (hr : Sc2 K r d1 d2 d) : Ev K B (tOp r ta tb) E (.z d) E2 := fun σ s ρ S Q q =>
  ha σ s ρ S _ fun v s1 ρ1 T1 S1 o1 => hb σ s1 ρ1 S1 _ fun w s2 ρ2 T2 S2 o2 =>
    hr s2.H v w (rd_dp S2 h1 (oe_up T2.g T2.r o1)) (rd_dp S2 h2 o2) Q fun v' e => q v' s2 ρ2 (T1.trans T2) S2 (e s2.G)
theorem ev_un {r : V → Hp → VK → Prop} (ha : Ev K B ta E x E1) (h1 : RdO E1 x d1) (hr : ∀ H x, Dp K H x d1 → ∀ Q : VK, (∀ v, Ever K v d → Q v H) → r x H Q) : Ev K B (tUn r ta) E (.z d) E1 := fun σ s ρ S Q q =>
  ha σ s ρ S _ fun v s1 ρ1 T1 S1 o1 => hr s1.H v (rd_dp S1 h1 o1) Q fun v' e => q v' s1 ρ1 T1 S1 (e s1.G)
def rOr (r r' : R2) : R2 := fun x y H Q => r x y H Q ∨ r' x y H Q
theorem opr_or {X : Cx} {f : Value → Value → Sem Value} {r r' : R2} (h : OpR X f r) (h' : OpR X f r') : OpR X f (rOr r r') := fun pins s σ H x y v u Q I r1 r2 z => z.elim (h pins s σ H x y v u Q I r1 r2) (h' pins s σ H x y v u Q I r1 r2)
theorem Sc2.fst (h : Sc2 K r d1 d2 d) : Sc2 K (rOr r r') d1 d2 d := fun H x y a b Q q => .inl (h H x y a b Q q)
theorem Sc2.snd (h : Sc2 K r' d1 d2 d) : Sc2 K (rOr r r') d1 d2 d := fun H x y a b Q q => .inr (h H x y a b Q q)
theorem sc_I0 {g : Int → Int → V} {i j : Int} (h : Ever K (g i j) d) : Sc2 K (rI0 g) (.int i) (.int j) d := fun H x y a b Q q => ⟨i, j, dp_int a, dp_int b, q _ h⟩
theorem sc_I {C : Int → Int → Prop} {g : Int → Int → V} {i j : Int} (c : C i j) (h : Ever K (g i j) d) : Sc2 K (rI C g) (.int i) (.int j) d := fun H x y a b Q q => ⟨i, j, dp_int a, dp_int b, c, q _ h⟩
theorem sc_eqD (h1 : SeqAt.shaped d1 = true) (h2 : SeqAt.shaped d2 = true) : Sc2 K (rEqD K) d1 d2 (.bool (PyData.eqv d1 d2)) := fun H x y a b Q q => ⟨d1, d2, a, b, h1, h2, q _ (ever_bl _)⟩
theorem sc_neD (h1 : SeqAt.shaped d1 = true) (h2 : SeqAt.shaped d2 = true) : Sc2 K (rNeD K) d1 d2 (.bool (!PyData.eqv d1 d2)) := fun H x y a b Q q => ⟨d1, d2, a, b, h1, h2, q _ (ever_bl _)⟩

/-! ### a test, and, or, not; choices -/
theorem et_test (h : Ev K B te E (.z (.bool b)) E1) : EvT K B (tTest te) E b E1 := fun σ s ρ S Q q => h σ s ρ S _ fun v s1 ρ1 T1 S1 o1 => ⟨b, dp_bl o1, q s1 ρ1 T1 S1⟩
theorem et_B (h : Ev K B te E (.z (.bool b)) E1) : EvT K B (tB te) E b E1 := fun σ s ρ S Q q => h σ s ρ S _ fun v s1 ρ1 T1 S1 o1 => ⟨b, dp_bl o1, q s1 ρ1 T1 S1⟩
theorem et_not (h : EvT K B t E b E1) : EvT K B (tNot t) E (!b) E1 := fun σ s ρ S Q q => h σ s ρ S _ fun s1 ρ1 T1 S1 => q s1 ρ1 T1 S1
theorem et_and (h : EvT K B t E b E1) (h2 : b = true → EvT K B u E1 c E2) (h3 : b = false → E1 = E2) : EvT K B (tAnd t u) E (b && c) E2 := fun σ s ρ S Q q => h σ s ρ S _ fun s1 ρ1 T1 S1 => by
  cases b with
  | true => exact iteT (h2 rfl σ s1 ρ1 S1 _ fun s2 ρ2 T2 S2 => q s2 ρ2 (T1.trans T2) S2)
  | false => exact iteF (q s1 ρ1 T1 (h3 rfl ▸ S1))
theorem et_or (h : EvT K B t E b E1) (h2 : b = false → EvT K B u E1 c E2) (h3 : b = true → E1 = E2) : EvT K B (tOr t u) E (b || c) E2 := fun σ s ρ S Q q => h σ s ρ S _ fun s1 ρ1 T1 S1 => by
  cases b with
  | true => exact iteT (q s1 ρ1 T1 (h3 rfl ▸ S1))
  | false => exact iteF (h2 rfl σ s1 ρ1 S1 _ fun s2 ρ2 T2 S2 => q s2 ρ2 (T1.trans T2) S2)
theorem et_is {b' : Bool} {E' : En} (h : EvT K B t E b E1) (e : b = b') (e' : E1 = E') : EvT K B t E b' E' := by subst e; subst e'; exact h
theorem ev_andV (h : Ev K B ta E (.z (.bool b)) E1) (h2 : b = true → Ev K B tb E1 (.z (.bool c)) E2) (h3 : b = false → E1 = E2) : Ev K B (tAndV ta tb) E (.z (.bool (b && c))) E2 := fun σ s ρ S Q q => h σ s ρ S _ fun v s1 ρ1 T1 S1 o1 => ⟨b, dp_bl o1, by
  cases b with
  | true => exact iteT (h2 rfl σ s1 ρ1 S1 _ fun w s2 ρ2 T2 S2 o2 => q w s2 ρ2 (T1.trans T2) S2 o2)
  | false => exact iteF (q _ s1 ρ1 T1 (h3 rfl ▸ S1) (ever_bl false _))⟩
theorem ev_orV (h : Ev K B ta E (.z (.bool b)) E1) (h2 : b = false → Ev K B tb E1 (.z (.bool c)) E2) (h3 : b = true → E1 = E2) : Ev K B (tOrV ta tb) E (.z (.bool (b || c))) E2 := fun σ s ρ S Q q => h σ s ρ S _ fun v s1 ρ1 T1 S1 o1 => ⟨b, dp_bl o1, by
  cases b with
  | true => exact iteT (q _ s1 ρ1 T1 (h3 rfl ▸ S1) (ever_bl true _))
  | false => exact iteF (h2 rfl σ s1 ρ1 S1 _ fun w s2 ρ2 T2 S2 o2 => q w s2 ρ2 (T1.trans T2) S2 o2)⟩
theorem ev_notV (h : Ev K B ta E (.z (.bool b)) E1) : Ev K B (tNotV ta) E (.z (.bool (!b))) E1 := fun σ s ρ S Q q => h σ s ρ S _ fun v s1 ρ1 T1 S1 o1 => ⟨b, dp_bl o1, q _ s1 ρ1 T1 S1 (ever_bl _ _)⟩
theorem ev_if {x' : OE} (h : EvT K B t E b E1) (h1 : b = true → Ev K B ta E1 x E2) (h2 : b = false → Ev K B tb E1 x E2) : Ev K B (tIf t ta tb) E x E2 := fun σ s ρ S Q q => h σ s ρ S _ fun s1 ρ1 T1 S1 => by
  cases b with
  | true => exact iteT (h1 rfl σ s1 ρ1 S1 _ fun w s2 ρ2 T2 S2 o2 => q w s2 ρ2 (T1.trans T2) S2 o2)
  | false => exact iteF (h2 rfl σ s1 ρ1 S1 _ fun w s2 ρ2 T2 S2 o2 => q w s2 ρ2 (T1.trans T2) S2 o2)
theorem ev_chain {x y z : OE} {d3 : PyData} (ha : Ev K B ta E x E1) (hb : Ev K B tb E1 y E2) (h1 : RdO E2 x d1) (h2 : RdO E2 y d2) (hr : Sc2 K r d1 d2 (.bool b)) (hc : b = true → Ev K B tc E2 z E3) (h3 : b = true → RdO E3 y d2) (h4 : b = true → RdO E3 z d3)
    (hr' : b = true → Sc2 K r' d2 d3 (.bool c)) (h5 : b = false → E2 = E3) : Ev K B (tChain r r' ta tb tc) E (.z (.bool (b && c))) E3 := fun σ s ρ S Q q =>
  ha σ s ρ S _ fun v s1 ρ1 T1 S1 o1 => hb σ s1 ρ1 S1 _ fun w s2 ρ2 T2 S2 o2 =>
    hr s2.H v w (rd_dp S2 h1 (oe_up T2.g T2.r o1)) (rd_dp S2 h2 o2) _ fun v' e => ⟨b, dp_bl (e s2.G), by
      cases b with
      | true => exact iteT (hc rfl σ s2 ρ2 S2 _ fun w' s3 ρ3 T3 S3 o3 => hr' rfl s3.H w w' (rd_dp S3 (h3 rfl) (oe_up T3.g T3.r o2)) (rd_dp S3 (h4 rfl) o3) _ fun v'' e' => q v'' s3 ρ3 ((T1.trans T2).trans T3) S3 (e' s3.G))
      | false => exact iteF (q _ s2 ρ2 (T1.trans T2) (h5 rfl ▸ S2) (ever_bl false _))⟩

/-! ### calls of built-ins that give a value and leave all as it is -/
/-- the arguments read as data -/
inductive RdA (E : En) : List OE → List PyData → Prop
  | nil : RdA E [] []
  | cons {x d xs ds} : RdO E x d → RdA E xs ds → RdA E (x :: xs) (d :: ds)
theorem rda_dp {σ : St} {s : Gh} {ρ : List Addr} (S : Sat K B σ s ρ E) : ∀ {xs : List OE} {ds : List PyData} {vs : List V}, RdA E xs ds → OesR K s.G ρ xs vs → DpAll K s.H vs ds
  | _, _, _, .nil, .nil => .nil
  | _, _, _, .cons h t, .cons o p => .cons (rd_dp S h o) (rda_dp S t p)
def ScC (K : PySem.W.Frag) (r : List V → Hp → VK → Prop) (ds : List PyData) (d : PyData) : Prop := ∀ H vs, DpAll K H vs ds → ∀ Q : VK, (∀ v, Ever K v d → Q v H) → r vs H Q
theorem ev_cb {rc : List V → Hp → VK → Prop} {ds : List PyData} (ha : EvA K B ar E xs E1) (h1 : RdA E1 xs ds) (hr : ScC K rc ds d) : Ev K B (tCB rc ar) E (.z d) E1 := fun σ s ρ S Q q =>
  ha σ s ρ S _ fun vs s1 ρ1 T1 S1 o1 => hr s1.H vs (rda_dp S1 h1 o1) Q fun v' e => q v' s1 ρ1 T1 S1 (e s1.G)
def rcOr (r r' : List V → Hp → VK → Prop) : List V → Hp → VK → Prop := fun xs H Q => r xs H Q ∨ r' xs H Q
theorem callr_or {X : Cx} {f : Value} {r r' : List V → Hp → VK → Prop} (h : CallR X f r) (h' : CallR X f r') : CallR X f (rcOr r r') := fun pins s σ H xs us Q I r1 z => z.elim (h pins s σ H xs us Q I r1) (h' pins s σ H xs us Q I r1)
theorem ScC.fst {r r' : List V → Hp → VK → Prop} {ds : List PyData} (h : ScC K r ds d) : ScC K (rcOr r r') ds d := fun H xs a Q q => .inl (h H xs a Q q)
theorem ScC.snd {r r' : List V → Hp → VK → Prop} {ds : List PyData} (h : ScC K r' ds d) : ScC K (rcOr r r') ds d := fun H xs a Q q => .inr (h H xs a Q q)
theorem dps1 {H : Hp} {vs : List V} (h : DpAll K H vs [d]) : ∃ v, vs = [v] ∧ Dp K H v d := by
  cases h with
  | cons a t => cases t; exact ⟨_, rfl, a⟩
theorem dps2 {H : Hp} {vs : List V} (h : DpAll K H vs [d1, d2]) : ∃ v w, vs = [v, w] ∧ Dp K H v d1 ∧ Dp K H w d2 := by
  cases h with
  | cons a t =>
    obtain ⟨w, rfl, h2⟩ := dps1 t
    exact ⟨_, w, rfl, a, h2⟩

/-! ### items -/
/-- an item of a list, a tuple -/
theorem ev_ixL {i : Int} {e : OE} (ha : Ev K B ta E x E1) (hb : Ev K B tb E1 (.z (.int i)) E2) (h1 : SqO E2 x xs) (h2 : atI xs i = some e) : Ev K B (tOp (rIx K) ta tb) E e E2 := fun σ s ρ S Q q =>
  ha σ s ρ S _ fun v s1 ρ1 T1 S1 o1 => hb σ s1 ρ1 S1 _ fun w s2 ρ2 T2 S2 o2 => by
    obtain ⟨a, vs, rfl, hs, hp⟩ := sq_dp S2 h1 (oe_up T2.g T2.r o1)
    obtain ⟨j, e1, e2, e3, e4, e5⟩ := atI_get h2
    obtain ⟨v', g1, g2⟩ := paired_get' hp e2
    refine Or.inl ⟨a, vs, i, v', rfl, dp_int o2, hs, ?_, q v' s2 ρ2 (T1.trans T2) S2 g2⟩
    unfold atI at h2 ⊢
    rw [← paired_len hp]
    cases en : ixN xs.length i with
    | none => rw [en] at h2; cases h2
    | some k =>
      have e6 := (ixN_seq en).1
      rw [e1] at e6; cases e6
      exact g1
theorem ev_ixT {i : Int} {e : PyData} {ds : List PyData} (ha : Ev K B ta E (.z (.tuple ds)) E1) (hb : Ev K B tb E1 (.z (.int i)) E2) (h2 : atI ds i = some e) : Ev K B (tOp (rIx K) ta tb) E (.z e) E2 := fun σ s ρ S Q q =>
  ha σ s ρ S _ fun v s1 ρ1 T1 S1 o1 => hb σ s1 ρ1 S1 _ fun w s2 ρ2 T2 S2 o2 => by
    obtain ⟨a, vs, rfl, hs, hp⟩ := tq_dp (oe_up T2.g T2.r o1)
    obtain ⟨j, e1, e2, e3, e4, e5⟩ := atI_get h2
    obtain ⟨v', g1, g2⟩ := paired_get' hp (x := .z e) (i := j) (by rw [List.getElem?_map, e2]; rfl)
    refine Or.inr (Or.inl ⟨a, vs, i, v', rfl, dp_int o2, hs, ?_, q v' s2 ρ2 (T1.trans T2) S2 g2⟩)
    have hl := paired_len hp
    rw [List.length_map] at hl
    unfold atI at h2 ⊢
    rw [← hl]
    cases en : ixN ds.length i with
    | none => rw [en] at h2; cases h2
    | some k =>
      have e6 := (ixN_seq en).1
      rw [e1] at e6; cases e6
      exact g1
theorem ev_ixS {i : Int} {w : Str} {c : Nat} (ha : Ev K B ta E (.z (.str w)) E1) (hb : Ev K B tb E1 (.z (.int i)) E2) (hl : w.length ≤ 100000) (h2 : atI w.cps.toList i = some c) : Ev K B (tOp (rIx K) ta tb) E (.z (.str ⟨#[c]⟩)) E2 := fun σ s ρ S Q q =>
  ha σ s ρ S _ fun v s1 ρ1 T1 S1 o1 => hb σ s1 ρ1 S1 _ fun w' s2 ρ2 T2 S2 o2 => by
    have e1 := dp_str o1
    subst e1
    exact Or.inr (Or.inr ⟨w, i, c, rfl, dp_int o2, Nat.le_trans hl (by decide), h2, q _ s2 ρ2 (T1.trans T2) S2 (ever_str _ _)⟩)
end
end Y

/-! Y3: statements over data; calls of defs; what a def promises -/
namespace Y
open PySem L2
structure Dn where
  nx : En → Prop
  rt : OE → En → Prop
  bk : En → Prop := fun _ => False
  ct : En → Prop := fun _ => False
section
variable (K : PySem.W.Frag) (B : Bs)
structure Conn (D : Dn) (D0 : Ends) : Prop where
  nx : ∀ σ s ρ E, Sat K B σ s ρ E → D.nx E → D0.nx σ s.H
  rt : ∀ v σ s ρ E x, Sat K B σ s ρ E → OeR K s.G ρ x v → D.rt x E → D0.rt v s.H
  bk : ∀ σ s ρ E, Sat K B σ s ρ E → D.bk E → D0.bk σ s.H
  ct : ∀ σ s ρ E, Sat K B σ s ρ E → D.ct E → D0.ct σ s.H
def W (ts : TS) (E : En) (D : Dn) : Prop := ∀ σ s ρ (D0 : Ends), Sat K B σ s ρ E → Conn K B D D0 → ts D0 σ s.H
end
section
variable {K : PySem.W.Frag} {B : Bs} {E E1 E2 E' : En} {D : Dn} {ta tb tc te : TE} {t u : TT} {t1 t2 ts : TS} {x y : OE} {d d1 d2 : PyData} {xs : List OE} {ar : TA} {b : Bool} {σ : St} {s : Gh} {ρ : List Addr}
theorem Sat.set (S : Sat K B σ s ρ E) {v : V} (o : OeR K s.G ρ x v) (i : Nat) : Sat K B (σ.set i (some v)) s ρ ⟨E.sl.set i (some x), E.ow⟩ := by
  refine ⟨S.own, S.fr, by simp [S.len], fun j y e => ?_⟩
  have e' : (E.sl.set i (some x))[j]? = some (some y) := e
  by_cases hj : j = i
  · subst hj
    have hl : j < E.sl.length := by
      have := (List.getElem?_eq_some_iff.mp e').1
      simpa using this
    rw [List.getElem?_set_self hl] at e'
    cases e'
    exact ⟨v, List.getElem?_set_self (by rw [S.len]; exact hl), o⟩
  · rw [List.getElem?_set_ne (Ne.symm hj)] at e' ⊢
    exact S.sl j y e'
/-- less is known -/
structure Wk (E E' : En) : Prop where
  sl : E.sl.length = E'.sl.length
  le : ∀ (i : Nat) (x : OE), E'.sl[i]? = some (some x) → E.sl[i]? = some (some x)
  ow : E.ow.length = E'.ow.length
  lo : ∀ (i : Nat) (o : OD), E'.ow[i]? = some o → o ≠ .gone → E.ow[i]? = some o
theorem Sat.wk (S : Sat K B σ s ρ E) (w : Wk E E') : Sat K B σ s ρ E' :=
  ⟨⟨S.own.len.trans w.ow, S.own.nd, S.own.ex, fun i a o e1 e2 e3 => S.own.rep i a o e1 (w.lo i o e2 e3) e3⟩, S.fr, S.len.trans w.sl, fun i x e => S.sl i x (w.le i x e)⟩
theorem w_wk (w : Wk E E') (h : W K B ts E' D) : W K B ts E D := fun σ s ρ D0 S C => h σ s ρ D0 (S.wk w) C

theorem w_next (h : D.nx E) : W K B tNext E D := fun σ s ρ D0 S C => C.nx σ s ρ E S h
theorem w_brk (h : D.bk E) : W K B tBreak E D := fun σ s ρ D0 S C => C.bk σ s ρ E S h
theorem w_cont (h : D.ct E) : W K B tCont E D := fun σ s ρ D0 S C => C.ct σ s ρ E S h
theorem w_seq (h : W K B t1 E { D with nx := fun E1 => W K B t2 E1 D }) : W K B (tSeq t1 t2) E D := fun σ s ρ D0 S C =>
  h σ s ρ { D0 with nx := t2 D0 } S ⟨fun σ' s' ρ' E' S' w => w σ' s' ρ' D0 S' C, C.rt, C.bk, C.ct⟩
theorem w_asg {i : Nat} (h : Ev K B te E x E1) (k : D.nx ⟨E1.sl.set i (some x), E1.ow⟩) : W K B (tAsg te (gName i)) E D := fun σ s ρ D0 S C =>
  h σ s ρ S _ fun v s1 ρ1 T1 S1 o1 => C.nx _ s1 ρ1 _ (S1.set o1 i) k
theorem w_ret (h : Ev K B te E x E1) (k : D.rt x E1) : W K B (tRet te) E D := fun σ s ρ D0 S C =>
  h σ s ρ S _ fun v s1 ρ1 T1 S1 o1 => C.rt v σ s1 ρ1 E1 x S1 o1 k
theorem w_retN (k : D.rt (.z .none) E) : W K B tRetN E D := fun σ s ρ D0 S C => C.rt .non σ s ρ E (.z .none) S (show Dp K s.G .non .none from .non) k
theorem w_drop (h : Ev K B te E x E1) (k : D.nx E1) : W K B (tDrop te) E D := fun σ s ρ D0 S C =>
  h σ s ρ S _ fun v s1 ρ1 T1 S1 o1 => C.nx σ s1 ρ1 E1 S1 k
theorem w_if (h : EvT K B t E b E1) (k1 : b = true → W K B t1 E1 D) (k2 : b = false → W K B t2 E1 D) : W K B (tIfS t t1 t2) E D := fun σ s ρ D0 S C =>
  h σ s ρ S _ fun s1 ρ1 T1 S1 => by
    cases b with
    | true => exact iteT (k1 rfl σ s1 ρ1 D0 S1 C)
    | false => exact iteF (k2 rfl σ s1 ρ1 D0 S1 C)
theorem w_aug {i : Nat} {ip : TIp} (hx : E1.sl[i]? = some (some x)) (hx0 : E.sl[i]? = some (some x)) (h : Ev K B te E y E1) (h1 : RdO E1 x d1) (h2 : RdO E1 y d2) (hr : Sc2 K ip d1 d2 d) (k : D.nx ⟨E1.sl.set i (some (.z d)), E1.ow⟩) : W K B (tAug i te ip) E D := fun σ s ρ D0 S C => by
  obtain ⟨v, e1, e2⟩ := S.sl i x hx0
  refine ⟨v, e1, h σ s ρ S _ fun w s1 ρ1 T1 S1 o1 => ?_⟩
  exact hr s1.H v w (rd_dp S1 h1 (oe_up T1.g T1.r e2)) (rd_dp S1 h2 o1) _ fun v' e => C.nx _ s1 ρ1 _ (S1.set (x := .z d) (e s1.G) i) k
/-- while: an invariant by a measure -/
theorem w_while (P : Nat → En → Prop) (m0 : Nat) (h0 : P m0 E)
    (hs : ∀ m E, P m E → ∃ b E1, EvT K B t E b E1 ∧ (b = true → W K B ts E1 { nx := fun E' => ∃ m', m' < m ∧ P m' E', ct := fun E' => ∃ m', m' < m ∧ P m' E', bk := D.nx, rt := D.rt }) ∧ (b = false → D.nx E1)) : W K B (tWhile t ts) E D := fun σ s ρ D0 S C => by
  refine ⟨fun m σ H => ∃ s ρ E, s.H = H ∧ Sat K B σ s ρ E ∧ P m E, ⟨m0, s, ρ, E, rfl, S, h0⟩, ?_⟩
  rintro m σ H ⟨s, ρ, E, rfl, S, p⟩
  obtain ⟨b, E1, h1, h2, h3⟩ := hs m E p
  refine h1 σ s ρ S _ fun s1 ρ1 T1 S1 => ?_
  cases b with
  | true =>
    refine iteT ⟨fun σ' H' => ∃ m', m' < m ∧ ∃ s ρ E, s.H = H' ∧ Sat K B σ' s ρ E ∧ P m' E, fun σ' H' ⟨m', l, z⟩ => ⟨m', l, z⟩, ?_⟩
    exact h2 rfl σ s1 ρ1 _ S1 ⟨fun σ' s' ρ' E' S' ⟨m', l, p'⟩ => ⟨m', l, s', ρ', E', rfl, S', p'⟩, C.rt, C.nx, fun σ' s' ρ' E' S' ⟨m', l, p'⟩ => ⟨m', l, s', ρ', E', rfl, S', p'⟩⟩
  | false => exact iteF (C.nx σ s1 ρ1 E1 S1 (h3 rfl))

/-! ### for -/
theorem Fr.trans {s' : Gh} {ρ' : List Addr} (f : Fr B s ρ) (f' : Fr ⟨s.G, s.H, ρ⟩ s' ρ') : Fr B s' ρ' := by
  obtain ⟨t, e1, e2⟩ := f.io
  obtain ⟨t', e3, e4⟩ := f'.io
  refine ⟨⟨t ++ t', by rw [e3]; show ρ ++ t' = _; rw [e1, List.append_assoc], fun a ha => ?_⟩, fun a o n e => ?_, fun a e => f'.p a (f.p a e), kept_trans f.g f'.g, fun a e => (f'.n a (f.p a e)).trans (f.n a e)⟩
  · rcases List.mem_append.mp ha with q | q
    · exact e2 a q
    · cases e : B.H a with
      | none => rfl
      | some o => exact absurd (e4 a q) (f.p a (by rw [e]; exact fun z => nomatch z))
  · refine f'.h a o (fun hm => ?_) (f.h a o n e)
    have hm' : a ∈ ρ := hm
    rw [e1] at hm'
    rcases List.mem_append.mp hm' with q | q
    · exact n q
    · rw [e2 a q] at e; cases e
theorem Fr.refl (s : Gh) (ρ : List Addr) : Fr ⟨s.G, s.H, ρ⟩ s ρ := ⟨⟨[], by simp, fun a h => by cases h⟩, fun _ _ _ e => e, fun _ e => e, fun _ _ e => e, fun _ _ => rfl⟩
theorem Sat.rebase (S : Sat K B σ s ρ E) : Sat K ⟨s.G, s.H, ρ⟩ σ s ρ E := ⟨S.own, Fr.refl s ρ, S.len, S.sl⟩
/-- storing y into the target leads from E to E2 -/
def Tg (K : PySem.W.Frag) (B : Bs) (g : TG) (y : OE) (E E2 : En) : Prop := ∀ σ s ρ v, Sat K B σ s ρ E → OeR K s.G ρ y v → ∀ Q : St → Hp → Prop,
  (∀ σ' s' ρ', Sat K B σ' s' ρ' E2 → Q σ' s'.H) → g v σ s.H Q
theorem tg_name {i : Nat} : Tg K B (gName i) x E ⟨E.sl.set i (some x), E.ow⟩ := fun σ s ρ v S o Q q => q _ s ρ (S.set o i)
theorem w_asgT {g : TG} (h : Ev K B te E x E1) (ht : Tg K B g x E1 E2) (k : D.nx E2) : W K B (tAsg te g) E D := fun σ s ρ D0 S C =>
  h σ s ρ S _ fun v s1 ρ1 T1 S1 o1 => ht σ s1 ρ1 v S1 o1 _ fun σ' s' ρ' S' => C.nx σ' s' ρ' E2 S' k
/-- the iterator J, in n turns, gives ys -/
def Good (K : PySem.W.Frag) (J : It) (s0 : Gh) (ρ0 : List Addr) (n : Nat) (ys : Nat → OE) (P : Nat → En → Prop) : Prop :=
  ∀ k σ s ρ E', Sat K ⟨s0.G, s0.H, ρ0⟩ σ s ρ E' → P k E' →
    (k < n → J.go k s.H ∧ ∀ v H', J.yld k s.H v H' → ∃ s', s'.H = H' ∧ (∀ B' σ' E2, Sat K B' σ' s ρ E2 → Sat K B' σ' s' ρ E2) ∧ OeR K s'.G ρ (ys k) v) ∧ (n ≤ k → J.stop k s.H)
theorem w_for_core {wi : TI} {g : TG} (n : Nat) (ys : Nat → OE) (T : Nat → En → En) (P : Nat → En → Prop)
    (hw : ∀ σ s ρ, Sat K B σ s ρ E → ∀ R : It → Hp → Prop, (∀ J s' ρ', Sat K B σ s' ρ' E1 → Good K J s' ρ' n ys P → R J s'.H) → wi σ s.H R) (h0 : P 0 E1)
    (hT : ∀ k E', k < n → P k E' → ∀ B, Tg K B g (ys k) E' (T k E'))
    (hs : ∀ B' : Bs, B'.io.length = E1.ow.length → ∀ k E', k < n → P k E' → W K B' ts (T k E') { nx := P (k + 1), ct := P (k + 1), bk := D.nx, rt := D.rt })
    (hd : ∀ E', P n E' → D.nx E') : W K B (tFor wi g ts) E D := fun σ s ρ D0 S C =>
  hw σ s ρ S _ fun J s1 ρ1 S1 G => by
    refine ⟨fun i m σ H => m = n - i ∧ i ≤ n ∧ ∃ s ρ E', s.H = H ∧ Sat K ⟨s1.G, s1.H, ρ1⟩ σ s ρ E' ∧ P i E', ⟨n, by simp, Nat.zero_le _, s1, ρ1, E1, rfl, S1.rebase, h0⟩, ?_⟩
    have back : ∀ {σ' s' ρ' E'}, Sat K ⟨s1.G, s1.H, ρ1⟩ σ' s' ρ' E' → Sat K B σ' s' ρ' E' := fun S' => ⟨S'.own, S1.fr.trans S'.fr, S'.len, S'.sl⟩
    rintro i m σ H ⟨rfl, hi, s, ρ, E', rfl, S', p⟩
    obtain ⟨g1, g2⟩ := G i σ s ρ E' S' p
    by_cases hlt : i < n
    · refine .inr ⟨(g1 hlt).1, fun σ H => ∃ s ρ E', s.H = H ∧ Sat K ⟨s1.G, s1.H, ρ1⟩ σ s ρ E' ∧ P (i + 1) E', fun σ' H' z => ⟨n - (i + 1), by omega, rfl, hlt, z⟩, fun v H' y => ?_⟩
      obtain ⟨s2, rfl, S2, o2⟩ := (g1 hlt).2 v H' y
      refine hT i E' hlt p _ σ s2 ρ v (S2 _ _ _ S') o2 _ fun σ3 s3 ρ3 S3 => ?_
      exact hs ⟨s1.G, s1.H, ρ1⟩ S1.own.len i E' hlt p σ3 s3 ρ3 _ S3 ⟨fun σ4 s4 ρ4 E4 S4 p4 => ⟨s4, ρ4, E4, rfl, S4, p4⟩, fun v σ4 s4 ρ4 E4 x S4 o4 p4 => C.rt v σ4 s4 ρ4 E4 x (back S4) o4 p4,
        fun σ4 s4 ρ4 E4 S4 p4 => C.nx σ4 s4 ρ4 E4 (back S4) p4, fun σ4 s4 ρ4 E4 S4 p4 => ⟨s4, ρ4, E4, rfl, S4, p4⟩⟩
    · have e : i = n := by omega
      subst e
      exact .inl ⟨g2 (Nat.le_refl _), C.nx σ s ρ E' (back S') (hd E' p)⟩
/-- for .. in a list that stands while it is walked -/
theorem w_forL {g : TG} (h : Ev K B te E x E1) (T : Nat → En → En) (P : Nat → En → Prop) (h0 : P 0 E1) (hq : ∀ k E', P k E' → SqO E' x xs) (hT : ∀ k y E', xs[k]? = some y → P k E' → ∀ B, Tg K B g y E' (T k E'))
    (hs : ∀ B' : Bs, B'.io.length = E1.ow.length → ∀ k y E', xs[k]? = some y → P k E' → W K B' ts (T k E') { nx := P (k + 1), ct := P (k + 1), bk := D.nx, rt := D.rt })
    (hd : ∀ E', P xs.length E' → D.nx E') : W K B (tFor (iList K te) g ts) E D := by
  have hx : ∀ {k : Nat}, k < xs.length → xs[k]? = some (xs.getD k (.z .none)) := fun {k} hk => by
    rw [List.getElem?_eq_getElem hk, List.getD_eq_getElem?_getD, List.getElem?_eq_getElem hk]; rfl
  refine w_for_core (E1 := E1) xs.length (fun k => xs.getD k (.z .none)) T P (fun σ s ρ S R q => ?_) h0 (fun k E' hk p B => hT k _ E' (hx hk) p B) (fun B' hB k E' hk p => hs B' hB k _ E' (hx hk) p) hd
  refine h σ s ρ S _ fun v s1 ρ1 T1 S1 o1 => ?_
  obtain ⟨a, vs, rfl, hl, hp⟩ := sq_dp S1 (hq 0 E1 h0) o1
  refine ⟨a, rfl, ⟨vs, hl⟩, q _ s1 ρ1 S1 fun k σ' s' ρ' E' S' p => ?_⟩
  obtain ⟨a', vs', e, hl', hp'⟩ := sq_dp S' (hq k E' p) (oe_up S'.fr.g (S'.fr.io.imp fun t z => z.1) o1)
  cases e
  refine ⟨fun hk => ?_, fun hk => ⟨vs', hl', by rw [← paired_len hp']; exact hk⟩⟩
  obtain ⟨w, hw, ow⟩ := paired_get' hp' (hx hk)
  refine ⟨⟨vs', w, hl', hw⟩, fun v H' y => ?_⟩
  obtain ⟨rfl, y⟩ := y
  have hv := y vs' hl'
  rw [hw] at hv; cases hv
  exact ⟨s', rfl, fun _ _ _ z => z, ow⟩
theorem w_forT {g : TG} {ds : List PyData} (h : Ev K B te E (.z (.tuple ds)) E1) (T : Nat → En → En) (P : Nat → En → Prop) (h0 : P 0 E1) (hT : ∀ k y E', ds[k]? = some y → P k E' → ∀ B, Tg K B g (.z y) E' (T k E'))
    (hs : ∀ B' : Bs, B'.io.length = E1.ow.length → ∀ k y E', ds[k]? = some y → P k E' → W K B' ts (T k E') { nx := P (k + 1), ct := P (k + 1), bk := D.nx, rt := D.rt })
    (hd : ∀ E', P ds.length E' → D.nx E') : W K B (tFor (iTup K te) g ts) E D := by
  have hx : ∀ {k : Nat}, k < ds.length → ds[k]? = some (ds.getD k .none) := fun {k} hk => by
    rw [List.getElem?_eq_getElem hk, List.getD_eq_getElem?_getD, List.getElem?_eq_getElem hk]; rfl
  refine w_for_core (E1 := E1) ds.length (fun k => .z (ds.getD k .none)) T P (fun σ s ρ S R q => ?_) h0 (fun k E' hk p B => hT k _ E' (hx hk) p B) (fun B' hB k E' hk p => hs B' hB k _ E' (hx hk) p) hd
  refine h σ s ρ S _ fun v s1 ρ1 T1 S1 o1 => ?_
  obtain ⟨a, vs, rfl, hl, hp⟩ := tq_dp o1
  refine ⟨a, rfl, ⟨vs, hl⟩, q _ s1 ρ1 S1 fun k σ' s' ρ' E' S' p => ?_⟩
  obtain ⟨a', vs', e, hl', hp'⟩ := tq_dp (oe_up S'.fr.g (S'.fr.io.imp fun t z => z.1) o1)
  cases e
  have hn := paired_len hp'
  rw [List.length_map] at hn
  refine ⟨fun hk => ?_, fun hk => ⟨vs', hl', by rw [← hn]; exact hk⟩⟩
  obtain ⟨w, hw, ow⟩ := paired_get' (i := k) hp' (by rw [List.getElem?_map, hx hk]; rfl)
  refine ⟨⟨vs', w, hl', hw⟩, fun v H' y => ?_⟩
  obtain ⟨rfl, y⟩ := y
  have hv := y vs' hl'
  rw [hw] at hv; cases hv
  exact ⟨s', rfl, fun _ _ _ z => z, ow⟩
theorem w_forR1 {g : TG} {n : Int} (h : EvA K B ar E [.z (.int n)] E1) (hn : -1000000000 ≤ n ∧ n ≤ 1000000000) (T : Nat → En → En) (P : Nat → En → Prop) (h0 : P 0 E1) (hT : ∀ (k : Nat) E', (k : Int) < n → P k E' → ∀ B, Tg K B g (.z (.int k)) E' (T k E'))
    (hs : ∀ B' : Bs, B'.io.length = E1.ow.length → ∀ (k : Nat) E', (k : Int) < n → P k E' → W K B' ts (T k E') { nx := P (k + 1), ct := P (k + 1), bk := D.nx, rt := D.rt })
    (hd : ∀ E', P n.toNat E' → D.nx E') : W K B (tFor (iRng1 ar) g ts) E D := by
  refine w_for_core (E1 := E1) n.toNat (fun k => .z (.int k)) T P (fun σ s ρ S R q => ?_) h0 (fun k E' hk p B => hT k E' (by omega) p B) (fun B' hB k E' hk p => hs B' hB k E' (by omega) p) hd
  refine h σ s ρ S _ fun vs s1 ρ1 T1 S1 o1 => ?_
  cases o1 with
  | cons o o' =>
    cases o'
    refine ⟨n, by rw [dp_int o], by omega, by omega, q _ s1 ρ1 S1 fun k σ' s' ρ' E' S' p => ⟨fun hk => ⟨hk, fun v H' y => ?_⟩, fun hk => hk⟩⟩
    obtain ⟨rfl, rfl⟩ := y
    refine ⟨s', rfl, fun _ _ _ z => z, ?_⟩
    rw [Int.zero_add]
    exact ever_int _ _
theorem w_forR2 {g : TG} {m n : Int} (h : EvA K B ar E [.z (.int m), .z (.int n)] E1) (hn : (-1000000000 ≤ m ∧ m ≤ 1000000000) ∧ -1000000000 ≤ n ∧ n ≤ 1000000000) (T : Nat → En → En) (P : Nat → En → Prop) (h0 : P 0 E1)
    (hT : ∀ (k : Nat) E', m + (k : Int) < n → P k E' → ∀ B, Tg K B g (.z (.int (m + k))) E' (T k E'))
    (hs : ∀ B' : Bs, B'.io.length = E1.ow.length → ∀ (k : Nat) E', m + (k : Int) < n → P k E' → W K B' ts (T k E') { nx := P (k + 1), ct := P (k + 1), bk := D.nx, rt := D.rt })
    (hd : ∀ E', P (n - m).toNat E' → D.nx E') : W K B (tFor (iRng2 ar) g ts) E D := by
  refine w_for_core (E1 := E1) (n - m).toNat (fun k => .z (.int (m + k))) T P (fun σ s ρ S R q => ?_) h0 (fun k E' hk p B => hT k E' (by omega) p B) (fun B' hB k E' hk p => hs B' hB k E' (by omega) p) hd
  refine h σ s ρ S _ fun vs s1 ρ1 T1 S1 o1 => ?_
  cases o1 with
  | cons o o' =>
    cases o' with
    | cons o2 o' =>
      cases o'
      refine ⟨m, n, by rw [dp_int o, dp_int o2], ⟨by omega, by omega, by omega, by omega⟩, q _ s1 ρ1 S1 fun k σ' s' ρ' E' S' p => ⟨fun hk => ⟨hk, fun v H' y => ?_⟩, fun hk => hk⟩⟩
      obtain ⟨rfl, rfl⟩ := y
      exact ⟨s', rfl, fun _ _ _ z => z, ever_int _ _⟩
end
end Y

/-! Y4: what a def promises over data; its calls -/
namespace Y
open PySem L2
def OE.ren (f : Nat → Nat) : OE → OE
  | .z d => .z d
  | .r i => .r (f i)
  | .e a => .e a
def OD.ren (f : Nat → Nat) : OD → OD
  | .gone => .gone
  | .lst xs => .lst (xs.map (OE.ren f))
  | .dK kvs => .dK (kvs.map fun p => (p.1, p.2.ren f))
/-- the callee's number i is the caller's -/
def reix (ids : List Nat) (m i : Nat) : Nat := match ids[i]? with
  | some j => j
  | none => m + (i - ids.length)
def over : List OD → List Nat → List OD → List OD
  | ow, [], new => ow ++ new
  | ow, i :: ids, o :: os => over (ow.set i o) ids os
  | ow, _ :: _, [] => ow
theorem over_len : ∀ (ids : List Nat) (ow new : List OD), ids.length ≤ new.length → (over ow ids new).length = ow.length + (new.length - ids.length)
  | [], ow, new, _ => by simp [over]
  | i :: ids, ow, [], h => by simp at h
  | i :: ids, ow, o :: os, h => by
    have := over_len ids (ow.set i o) os (by simpa using h)
    simp only [over, this, List.length_set, List.length_cons]
    omega
theorem over_hi : ∀ (ids : List Nat) (ow new : List OD) (j : Nat), ids.length ≤ new.length → ow.length ≤ j → (over ow ids new)[j]? = new[ids.length + (j - ow.length)]?
  | [], ow, new, j, _, hj => by simp [over, List.getElem?_append_right hj]
  | i :: ids, ow, [], j, h, _ => by simp at h
  | i :: ids, ow, o :: os, j, h, hj => by
    have := over_hi ids (ow.set i o) os j (by simpa using h) (by simpa using hj)
    simp only [over, this, List.length_set, List.length_cons]
    rw [show ids.length + 1 + (j - ow.length) = (ids.length + (j - ow.length)) + 1 by omega, List.getElem?_cons_succ]
theorem over_out : ∀ (ids : List Nat) (ow new : List OD) (j : Nat), ids.length ≤ new.length → j < ow.length → j ∉ ids → (over ow ids new)[j]? = ow[j]?
  | [], ow, new, j, _, hj, _ => by simp [over, List.getElem?_append_left hj]
  | i :: ids, ow, [], j, h, _, _ => by simp at h
  | i :: ids, ow, o :: os, j, h, hj, hn => by
    have hij : i ≠ j := fun e => hn (by simp [e])
    have := over_out ids (ow.set i o) os j (by simpa using h) (by simpa using hj) (fun e => hn (by simp [e]))
    simp only [over, this]
    rw [List.getElem?_set_ne hij]
theorem over_in : ∀ (ids : List Nat) (ow new : List OD) (k j : Nat), ids.Nodup → ids.length ≤ new.length → j < ow.length → ids[k]? = some j → (over ow ids new)[j]? = new[k]?
  | [], ow, new, k, j, _, _, _, h => by simp at h
  | i :: ids, ow, [], k, j, _, h, _, _ => by simp at h
  | i :: ids, ow, o :: os, 0, j, hn, h, hj, hk => by
    simp at hk
    subst hk
    simp only [over]
    rw [over_out ids (ow.set i o) os i (by simpa using h) (by simpa using hj) (List.nodup_cons.mp hn).1, List.getElem?_set_self hj]
    rfl
  | i :: ids, ow, o :: os, k + 1, j, hn, h, hj, hk => by
    simp only [over]
    rw [over_in ids (ow.set i o) os k j (List.nodup_cons.mp hn).2 (by simpa using h) (by simpa using hj) (by simpa using hk)]
    simp

abbrev Xf := Option (List (Str × PyData))
abbrev DSp := List OE → List OD → (OE → List OD → Prop) → (Value → Xf → List OD → Prop) → Prop
section
variable (K : PySem.W.Frag)
/-- an exception's own dict -/
def XR (s : Gh) (fs : Xf) (dO : Option Addr) : Prop := match fs with
  | none => dO = none
  | some l => ∃ d ws, dO = some d ∧ s.H d = some (.xd ws) ∧ Paired (fun (p : Str × PyData) (q : Str × V) => p.1 = q.1 ∧ Dp K s.G q.2 p.2) l ws
def spD (n : Nat) (F : DSp) : Sp := fun vs H Q E => vs.length = n ∧ ∃ (s : Gh) (ρ : List Addr) (xs : List OE) (ow : List OD), s.H = H ∧ Own K s ρ ow ∧ OesR K s.G ρ xs vs ∧
  F xs ow (fun x ow' => ∀ v s' ρ', Fr ⟨s.G, s.H, ρ⟩ s' ρ' → Own K s' ρ' ow' → OeR K s'.G ρ' x v → Q v s'.H)
    (fun cls fs ow' => ∀ dO s' ρ', Fr ⟨s.G, s.H, ρ⟩ s' ρ' → Own K s' ρ' ow' → XR K s' fs dO → E cls dO s'.H)
end
section
variable {K : PySem.W.Frag} {B : Bs} {E E1 E2 E' : En} {D : Dn} {ta tb tc te : TE} {t u : TT} {t1 t2 ts : TS} {x y : OE} {d d1 d2 : PyData} {xs : List OE} {ar : TA} {b : Bool} {σ : St} {s s' : Gh} {ρ ρ' : List Addr} {ids : List Nat}
/-- the callee's addresses -/
def pickA (ρ : List Addr) (ids : List Nat) : List Addr := ids.filterMap fun i => ρ[i]?
theorem pickA_get : ∀ (ids : List Nat) (k : Nat), (∀ i ∈ ids, i < ρ.length) → (pickA ρ ids)[k]? = (ids[k]?).bind fun i => ρ[i]?
  | [], k, _ => by simp [pickA]
  | i :: ids, k, h => by
    have hi : i < ρ.length := h i (by simp)
    have ih := fun k => pickA_get ids k fun j hj => h j (by simp [hj])
    unfold pickA at ih ⊢
    rw [List.filterMap_cons, List.getElem?_eq_getElem hi]
    cases k with
    | zero => simp [List.getElem?_eq_getElem hi]
    | succ k => simpa using ih k
theorem pickA_len (h : ∀ i ∈ ids, i < ρ.length) : (pickA ρ ids).length = ids.length := by
  induction ids with
  | nil => rfl
  | cons i ids ih =>
    have hi : i < ρ.length := h i (by simp)
    unfold pickA at ih ⊢
    rw [List.filterMap_cons, List.getElem?_eq_getElem hi]
    simp [ih fun j hj => h j (by simp [hj])]
theorem pickA_sub {a : Addr} (h : a ∈ pickA ρ ids) : a ∈ ρ := by
  obtain ⟨i, _, e⟩ := List.mem_filterMap.mp h
  exact List.mem_of_getElem? e
theorem pickA_nd (hρ : ρ.Nodup) : ∀ {ids : List Nat}, ids.Nodup → (∀ i ∈ ids, i < ρ.length) → (pickA ρ ids).Nodup
  | [], _, _ => by simp [pickA]
  | i :: ids, hn, h => by
    have hi : i < ρ.length := h i (by simp)
    have ih := pickA_nd hρ (List.nodup_cons.mp hn).2 fun j hj => h j (by simp [hj])
    unfold pickA at ih ⊢
    rw [List.filterMap_cons, List.getElem?_eq_getElem hi]
    refine List.nodup_cons.mpr ⟨fun hm => ?_, ih⟩
    obtain ⟨j, hj, e⟩ := List.mem_filterMap.mp hm
    have hjl := h j (by simp [hj])
    rw [List.getElem?_eq_getElem hjl] at e
    have := (List.getElem_inj hρ).mp (Option.some.inj e)
    subst this
    exact (List.nodup_cons.mp hn).1 hj
/-- a callee's reading is a caller's, and back -/
theorem ren_in (hlt : ∀ i ∈ ids, i < ρ.length) {x : OE} {v : V} (h : OeR K s.G ρ (x.ren (reix ids ρ.length)) v) : OeR K s.G (pickA ρ ids) x v := by
  cases x with
  | z d => exact h
  | e a => exact h
  | r i =>
    obtain ⟨a, ha, hv⟩ := h
    refine ⟨a, ?_, hv⟩
    rw [pickA_get ids i hlt]
    unfold reix at ha
    cases e : ids[i]? with
    | none =>
      rw [e] at ha
      have := (List.getElem?_eq_some_iff.mp ha).1
      simp at this; omega
    | some j => rw [e] at ha; exact ha
theorem ren_out (hlt : ∀ i ∈ ids, i < ρ.length) {t : List Addr} {x : OE} {v : V} (h : OeR K s.G (pickA ρ ids ++ t) x v) : OeR K s.G (ρ ++ t) (x.ren (reix ids ρ.length)) v := by
  cases x with
  | z d => exact h
  | e a => exact h
  | r i =>
    obtain ⟨a, ha, hv⟩ := h
    refine ⟨a, ?_, hv⟩
    unfold reix
    cases e : ids[i]? with
    | none =>
      have hi : ids.length ≤ i := List.getElem?_eq_none_iff.mp e
      show (ρ ++ t)[ρ.length + (i - ids.length)]? = some a
      rw [List.getElem?_append_right (by rw [pickA_len hlt]; exact hi), pickA_len hlt] at ha
      rw [List.getElem?_append_right (by omega)]
      rw [← ha]; congr 1; omega
    | some j =>
      have hi : i < ids.length := (List.getElem?_eq_some_iff.mp e).1
      show (ρ ++ t)[j]? = some a
      rw [List.getElem?_append_left (by rw [pickA_len hlt]; exact hi), pickA_get ids i hlt, e] at ha
      exact ix_app ha
theorem paired_map_l {α β γ : Type} {F : α → β → Prop} {f : γ → α} : ∀ {xs : List γ} {ys : List β}, Paired F (xs.map f) ys → Paired (fun a b => F (f a) b) xs ys
  | [], _, .nil => .nil
  | _ :: _, _, .cons r t => .cons r (paired_map_l t)
theorem paired_l_map {α β γ : Type} {F : α → β → Prop} {f : γ → α} : ∀ {xs : List γ} {ys : List β}, Paired (fun a b => F (f a) b) xs ys → Paired F (xs.map f) ys
  | _, _, .nil => .nil
  | _, _, .cons r t => .cons r (paired_l_map t)
theorem od_in (hlt : ∀ i ∈ ids, i < ρ.length) {o : Option HO} {x : OD} (h : OdR K s.G ρ o (x.ren (reix ids ρ.length))) : OdR K s.G (pickA ρ ids) o x := by
  cases x with
  | gone => trivial
  | lst xs =>
    obtain ⟨vs, h1, h2⟩ := h
    exact ⟨vs, h1, paired_up (paired_map_l h2) fun _ _ q => ren_in (s := s) hlt q⟩
  | dK kvs =>
    obtain ⟨ws, h1, h2⟩ := h
    exact ⟨ws, h1, paired_up (paired_map_l h2) fun _ _ q => ⟨q.1, ren_in (s := s) hlt q.2⟩⟩
theorem od_out (hlt : ∀ i ∈ ids, i < ρ.length) {t : List Addr} {o : Option HO} {x : OD} (h : OdR K s.G (pickA ρ ids ++ t) o x) : OdR K s.G (ρ ++ t) o (x.ren (reix ids ρ.length)) := by
  cases x with
  | gone => trivial
  | lst xs =>
    obtain ⟨vs, h1, h2⟩ := h
    exact ⟨vs, h1, paired_l_map (paired_up h2 fun _ _ q => ren_out (s := s) hlt q)⟩
  | dK kvs =>
    obtain ⟨ws, h1, h2⟩ := h
    exact ⟨ws, h1, paired_l_map (paired_up h2 fun _ _ q => ⟨q.1, ren_out (s := s) hlt q.2⟩)⟩
theorem ren_gone {f : Nat → Nat} {o : OD} (h : o.ren f ≠ .gone) : o ≠ .gone := fun e => h (by subst e; rfl)
/-- what the callee may lean on -/
theorem Sat.lend (S : Sat K B σ s ρ E) {owC : List OD} (hn : ids.Nodup) (ho : ids.map (fun i => E.ow[i]?) = owC.map fun o => some (o.ren (reix ids E.ow.length))) :
    (∀ i ∈ ids, i < ρ.length) ∧ Own K s (pickA ρ ids) owC := by
  have hlt : ∀ i ∈ ids, i < ρ.length := fun i hi => by
    have : E.ow[i]? ∈ ids.map (fun i => E.ow[i]?) := List.mem_map_of_mem hi
    rw [ho] at this
    obtain ⟨o, _, e⟩ := List.mem_map.mp this
    rw [S.own.len]; exact (List.getElem?_eq_some_iff.mp e.symm).1
  have hl : ids.length = owC.length := by simpa using congrArg List.length ho
  refine ⟨hlt, ⟨by rw [pickA_len hlt, hl], pickA_nd S.own.nd hn hlt, fun i a e => ?_, fun i a o e1 e2 e3 => ?_⟩⟩
  · obtain ⟨j, hj⟩ := List.getElem?_of_mem (pickA_sub (List.mem_of_getElem? e))
    exact S.own.ex j a hj
  · rw [pickA_get ids i hlt] at e1
    cases e : ids[i]? with
    | none => rw [e] at e1; cases e1
    | some j =>
      rw [e] at e1
      have e1' : ρ[j]? = some a := e1
      have ej : E.ow[j]? = some (o.ren (reix ids E.ow.length)) := by
        have h1 : (ids.map (fun i => E.ow[i]?))[i]? = some (E.ow[j]?) := by rw [List.getElem?_map, e]; rfl
        rw [ho, List.getElem?_map, e2] at h1
        exact (Option.some.inj h1).symm
      obtain ⟨r1, r2⟩ := S.own.rep j a _ e1' ej (fun z => e3 (by cases o <;> first | rfl | exact nomatch z))
      rw [← S.own.len] at r2
      exact ⟨r1, od_in hlt r2⟩
/-- behind the callee -/
theorem Sat.back (S : Sat K B σ s ρ E) {owC ow' : List OD} (hn : ids.Nodup) (ho : ids.map (fun i => E.ow[i]?) = owC.map fun o => some (o.ren (reix ids E.ow.length))) (hl : ids.length ≤ ow'.length)
    {ρc : List Addr} (F : Fr ⟨s.G, s.H, pickA ρ ids⟩ s' ρc) (O : Own K s' ρc ow') :
    ∃ t, ρc = pickA ρ ids ++ t ∧ Sat K B σ s' (ρ ++ t) ⟨E.sl, over E.ow ids (ow'.map (OD.ren (reix ids E.ow.length)))⟩ ∧ Step s ρ s' (ρ ++ t) := by
  obtain ⟨hlt, OC⟩ := S.lend hn ho
  obtain ⟨t, e1, e2⟩ := F.io
  have e1' : ρc = pickA ρ ids ++ t := e1
  subst e1'
  have hlt' : ∀ i ∈ ids, i < E.ow.length := fun i hi => by rw [← S.own.len]; exact hlt i hi
  have hlm : ids.length ≤ (ow'.map (OD.ren (reix ids E.ow.length))).length := by simpa using hl
  have hlen : (pickA ρ ids).length + t.length = ow'.length := by simpa using O.len
  rw [pickA_len hlt] at hlen
  have hrr : ∃ u, ρ ++ t = ρ ++ u := ⟨t, rfl⟩
  have hnew : ∀ a, s.H a ≠ none → s'.G a = s.G a := F.n
  refine ⟨t, rfl, ⟨⟨?_, ?_, fun i a e => ?_, fun i a o g1 g2 g3 => ?_⟩, ⟨?_, fun a o n e => ?_, fun a e => F.p a (S.fr.p a e), kept_trans S.fr.g F.g, fun a e => (hnew a (S.fr.p a e)).trans (S.fr.n a e)⟩, S.len, fun i x e => ?_⟩, ⟨F.g, hrr⟩⟩
  · show (ρ ++ t).length = (over E.ow ids _).length
    rw [over_len _ _ _ hlm, List.length_append, List.length_map, S.own.len]; omega
  · refine List.nodup_append.mpr ⟨S.own.nd, (List.nodup_append.mp O.nd).2.1, fun a ha b hb q => ?_⟩
    subst q
    obtain ⟨j, hj⟩ := List.getElem?_of_mem ha
    exact S.own.ex j a hj (e2 a hb)
  · by_cases hi : i < ρ.length
    · rw [List.getElem?_append_left hi] at e
      exact F.p a (S.own.ex i a e)
    · rw [List.getElem?_append_right (Nat.le_of_not_lt hi)] at e
      exact O.ex ((pickA ρ ids).length + (i - ρ.length)) a (by rw [List.getElem?_append_right (by omega)]; simpa using e)
  · have g2' : (over E.ow ids (ow'.map (OD.ren (reix ids E.ow.length))))[i]? = some o := g2
    by_cases hi : i < ρ.length
    · rw [List.getElem?_append_left hi] at g1
      have hio : i < E.ow.length := by rw [← S.own.len]; exact hi
      by_cases hm : i ∈ ids
      · obtain ⟨k, hk⟩ := List.getElem?_of_mem hm
        rw [over_in ids _ _ k i hn hlm hio hk, List.getElem?_map] at g2'
        cases ek : ow'[k]? with
        | none => rw [ek] at g2'; cases g2'
        | some oc =>
          rw [ek] at g2'
          have eo : oc.ren (reix ids E.ow.length) = o := Option.some.inj g2'
          subst eo
          have hkl : k < (pickA ρ ids).length := by rw [pickA_len hlt]; exact (List.getElem?_eq_some_iff.mp hk).1
          have gk : (pickA ρ ids ++ t)[k]? = some a := by
            rw [List.getElem?_append_left hkl, pickA_get ids k hlt, hk]; exact g1
          obtain ⟨r1, r2⟩ := O.rep k a oc gk ek (ren_gone g3)
          refine ⟨r1, ?_⟩
          have := od_out (s := s') hlt r2
          rw [S.own.len] at this; exact this
      · rw [over_out ids _ _ i hlm hio hm] at g2'
        obtain ⟨r1, r2⟩ := S.own.rep i a o g1 g2' g3
        have hna : a ∉ pickA ρ ids := fun hp => by
          obtain ⟨j, hj, ej⟩ := List.mem_filterMap.mp hp
          obtain ⟨q1, q2⟩ := List.getElem?_eq_some_iff.mp g1
          obtain ⟨q3, q4⟩ := List.getElem?_eq_some_iff.mp ej
          have := (List.getElem_inj S.own.nd).mp (q2.trans q4.symm)
          subst this
          exact hm hj
        refine ⟨(hnew a (S.own.ex i a g1)).trans r1, ?_⟩
        cases eh : s.H a with
        | none => exact absurd eh (S.own.ex i a g1)
        | some oh =>
          rw [eh] at r2
          rw [F.h a oh hna eh]
          exact od_up F.g hrr r2
    · have hi' : ρ.length ≤ i := Nat.le_of_not_lt hi
      rw [over_hi ids _ _ i hlm (by rw [← S.own.len]; exact hi'), List.getElem?_map] at g2'
      cases ek : ow'[ids.length + (i - E.ow.length)]? with
      | none => rw [ek] at g2'; cases g2'
      | some oc =>
        rw [ek] at g2'
        have eo : oc.ren (reix ids E.ow.length) = o := Option.some.inj g2'
        subst eo
        rw [List.getElem?_append_right hi'] at g1
        have gk : (pickA ρ ids ++ t)[ids.length + (i - E.ow.length)]? = some a := by
          rw [List.getElem?_append_right (by rw [pickA_len hlt]; omega), pickA_len hlt, ← g1, ← S.own.len]; congr 1; omega
        obtain ⟨r1, r2⟩ := O.rep _ a oc gk ek (ren_gone g3)
        refine ⟨r1, ?_⟩
        have := od_out (s := s') hlt r2
        rw [S.own.len] at this; exact this
  · obtain ⟨t0, f1, f2⟩ := S.fr.io
    refine ⟨t0 ++ t, by rw [f1, List.append_assoc], fun a ha => ?_⟩
    rcases List.mem_append.mp ha with q | q
    · exact f2 a q
    · cases eb : B.H a with
      | none => rfl
      | some o => exact absurd (e2 a q) (S.fr.p a (by rw [eb]; exact fun z => nomatch z))
  · obtain ⟨t0, f1, f2⟩ := S.fr.io
    refine F.h a o (fun hp => ?_) (S.fr.h a o n e)
    have hm := pickA_sub hp
    rw [f1] at hm
    rcases List.mem_append.mp hm with q | q
    · exact n q
    · rw [f2 a q] at e; cases e
  · obtain ⟨v, h1, h2⟩ := S.sl i x e
    exact ⟨v, h1, oe_up F.g hrr h2⟩
/-- a call of a def: ids tell which of the caller's owned objects it is given -/
theorem ev_call {F : DSp} {E0 : XK} {xsC : List OE} {owC owC' : List OD} {xC : OE} {n : Nat} (hlen : xsC.length = n) (ids : List Nat) (Ψ : Value → Xf → List OD → Prop) (ha : EvA K B ar E xs E1) (hx : xs = xsC.map (OE.ren (reix ids E1.ow.length))) (hn : ids.Nodup)
    (ho : ids.map (fun i => E1.ow[i]?) = owC.map fun o => some (o.ren (reix ids E1.ow.length))) (hF : ∀ (Φ : OE → List OD → Prop) (Ψ' : Value → Xf → List OD → Prop), Φ xC owC' → (∀ cls fs ow', Ψ cls fs ow' → Ψ' cls fs ow') → F xsC owC Φ Ψ') (hl : ids.length ≤ owC'.length)
    (hX : ∀ cls fs ow', Ψ cls fs ow' → ids.length ≤ ow'.length ∧ ∀ σ s ρ dO, Sat K B σ s ρ ⟨E1.sl, over E1.ow ids (ow'.map (OD.ren (reix ids E1.ow.length)))⟩ → XR K s fs dO → E0 cls dO s.H) :
    Ev K B (tCall (spD K n F) [] E0 ar) E (xC.ren (reix ids E1.ow.length)) ⟨E1.sl, over E1.ow ids (owC'.map (OD.ren (reix ids E1.ow.length)))⟩ := fun σ s ρ S Q q =>
  ha σ s ρ S _ fun vs s1 ρ1 T1 S1 o1 => by
    obtain ⟨hlt, OC⟩ := S1.lend hn ho
    subst hx
    show spD K n F (vs ++ []) s1.H Q E0
    rw [List.append_nil]
    refine ⟨by rw [← paired_len o1, List.length_map, hlen], s1, pickA ρ1 ids, xsC, owC, rfl, OC, ?_, hF _ _ ?_ ?_⟩
    · rw [← S1.own.len] at o1
      exact paired_up (paired_map_l o1) fun _ _ z => ren_in (s := s1) hlt z
    · intro v s' ρ' F' O' o'
      obtain ⟨t, e, S', T'⟩ := S1.back hn ho hl F' O'
      subst e
      refine q v s' (ρ1 ++ t) (T1.trans T') S' ?_
      have := ren_out (s := s') hlt o'
      rw [S1.own.len] at this; exact this
    · intro cls fs ow' ψ dO s' ρ' F' O' xr
      obtain ⟨l', k⟩ := hX cls fs ow' ψ
      obtain ⟨t, e, S', T'⟩ := S1.back hn ho l' F' O'
      exact k σ s' (ρ1 ++ t) dO S' xr
/-- no owned object is lent; the answer is frozen -/
theorem ev_call0 {F : DSp} {E0 : XK} {ds : List PyData} {n : Nat} (hlen : ds.length = n) (ha : EvA K B ar E (ds.map .z) E1) (hF : ∀ (Φ : OE → List OD → Prop) (Ψ : Value → Xf → List OD → Prop), Φ (.z d) [] → F (ds.map .z) [] Φ Ψ) :
    Ev K B (tCall (spD K n F) [] E0 ar) E (.z d) E1 := by
  have h := ev_call (K := K) (B := B) (E0 := E0) (F := F) (xsC := ds.map .z) (owC := []) (owC' := []) (xC := .z d) (n := n) (by simpa using hlen) [] (fun _ _ _ => False) ha (by rw [List.map_map]; rfl) .nil rfl (fun Φ Ψ h _ => hF Φ Ψ h) (Nat.le_refl _) (fun _ _ _ z => z.elim)
  simpa [over, OE.ren] using h
/-- a def's body holds its promise -/
theorem fn_ok {P : Program} {w : World} {mg : Str → Option Value} {base : Heap} {xn qual : Str} {st : Stmt} {f : Addr} {fd : FuncData} {N ps : List Str} {k : Nat} {F : DSp} (T : Fun K xn qual st f fd) (S : FnScope N ps (defScope st))
    (hbody : ∀ (cdv : Value) (A : Around) (outer : List Env) (s : Shared) (H : Hp) (E : XK), Room k (A.deeper (PyProof.Rows.envOfC qual (defScope st) s.heap.objs.size f cdv)) →
      ∃ t, PSs (cxOf CX0 P w K mg base N qual (defScope st) f cdv A outer s H E).nox (defBody st) t ∧
        ∀ B xs ow Φ Ψ, B.io.length = ow.length → F xs ow Φ Ψ → W K B t ⟨xs.map some ++ List.replicate (N.length - xs.length) none, ow⟩ { nx := fun E' => Φ (.z .none) E'.ow, rt := fun x E' => Φ x E'.ow }) :
    FnOk P w K mg base CX0 (k + 1) f fd ps (spD K ps.length F) := by
  refine T.ok S (fun vs H Q E h => ?_) (fun cdv A outer s H vs Q E hr h => ?_)
  · exact h.1
  · obtain ⟨t, ht, hw⟩ := hbody cdv A outer s H E hr
    refine ⟨t, ht, ?_⟩
    obtain ⟨_, s0, ρ, xs, ow, rfl, O, o, h⟩ := h
    refine hw ⟨s0.G, s0.H, ρ⟩ xs ow _ _ O.len h (L2.start N vs) s0 ρ _ ⟨O, Fr.refl s0 ρ, ?_, fun i x e => ?_⟩ ⟨fun σ s ρ' E' S' φ => ?_, fun v σ s ρ' E' x S' ox φ => ?_, fun _ _ _ _ _ z => z.elim, fun _ _ _ _ _ z => z.elim⟩
    · unfold L2.start
      simp [paired_len o]
    · have e' : (xs.map some ++ List.replicate (N.length - xs.length) none)[i]? = some (some x) := e
      rw [List.getElem?_append] at e'
      split at e'
      · rename_i hi
        rw [List.getElem?_map] at e'
        cases ex : xs[i]? with
        | none => rw [ex] at e'; cases e'
        | some y =>
          rw [ex] at e'
          have : y = x := Option.some.inj (Option.some.inj e')
          subst this
          obtain ⟨v, hv, ov⟩ := paired_get' o ex
          refine ⟨v, ?_, ov⟩
          unfold L2.start
          rw [List.getElem?_append_left (by simpa using (List.getElem?_eq_some_iff.mp hv).1), List.getElem?_map, hv]; rfl
      · have := List.mem_of_getElem? e'
        rw [List.mem_replicate] at this
        cases this.2
    · exact φ .non s ρ' S'.fr S'.own (show Dp K s.G .non .none from .non)
    · exact φ v s ρ' S'.fr S'.own ox
end
end Y

/-! Y5: operators whatever their operands are; built-ins; where a def stands -/
namespace Y
open PySem L2 PyProof.Rows
/-! ### operators -/
abbrev rStrCat : R2 := fun x y H Q => ∃ i j, x = V.str i ∧ y = V.str j ∧ i.length + j.length ≤ sizeLine ∧ Q (.str (i ++ j)) H
section
variable {X : Cx}
theorem op_mulG : OpR X (binaryOp .Mult) (rI IntMulOk fun i j => .int (i * j)) := opI fun _ _ _ _ _ _ _ hc q => mul_int q hc
abbrev rAddU (K : PySem.W.Frag) : R2 := rOr (rI0 fun i j => .int (i + j)) (rOr rStrCat (rOr rCat (rCatA K)))
theorem op_addU : OpR X (binaryOp .Add) (rAddU X.K) := opr_or op_add (opr_or op_add_str (opr_or op_cat op_catA))
abbrev rMulU (K : PySem.W.Frag) : R2 := rOr (rI IntMulOk fun i j => .int (i * j)) (rOr rRep (rRepT K))
theorem op_mulU : OpR X (binaryOp .Mult) (rMulU X.K) := opr_or op_mulG (opr_or op_rep op_repT)
abbrev rEqU (K : PySem.W.Frag) : R2 := rOr rEq (rEqD K)
abbrev rNeU (K : PySem.W.Frag) : R2 := rOr rNe (rNeD K)
theorem op_eqU (hu : X.A.units + 64 < cLine) : OpR X (compareOp .Eq) (rEqU X.K) := opr_or op_eq (op_eqD hu)
theorem op_neU (hu : X.A.units + 64 < cLine) : OpR X (compareOp .NotEq) (rNeU X.K) := opr_or op_ne (op_neD hu)
abbrev rLtS : R2 := fun x y H Q => ∃ i j, x = V.str i ∧ y = V.str j ∧ Q (.bl (decide (i.cps.toList < j.cps.toList))) H
abbrev rLtU : R2 := rOr (rI0 fun i j => .bl (decide (i < j))) rLtS
theorem op_ltU : OpR X (compareOp .Lt) rLtU := opr_or op_lt op_lt_str
end
section
variable {K : PySem.W.Frag} {B : Bs} {E E1 E2 E3 : En} {ta tb tc te : TE} {t u : TT} {x y z : OE} {d d1 d2 : PyData} {r r' : R2} {xs ys : List OE} {ar : TA} {b c : Bool} {i j : Int}
theorem sc_add : Sc2 K (rAddU K) (.int i) (.int j) (.int (i + j)) := (sc_I0 (ever_int _)).fst
theorem sc_addS {i j : Str} (h : i.length + j.length ≤ 100000) : Sc2 K (rAddU K) (.str i) (.str j) (.str (i ++ j)) := Sc2.snd (Sc2.fst fun H x y a b Q q => ⟨i, j, dp_str a, dp_str b, Nat.le_trans h (by decide), q _ (ever_str _)⟩)
theorem sc_sub : Sc2 K (rI0 fun i j => .int (i - j)) (.int i) (.int j) (.int (i - j)) := sc_I0 (ever_int _)
theorem mul_ok (h : (-(2 ^ 63) < i ∧ i < 2 ^ 63) ∨ (-(2 ^ 63) < j ∧ j < 2 ^ 63) ∨ (i.natAbs.log2 + j.natAbs.log2 < 100000000)) : IntMulOk i j := by
  have bits : ∀ {n : Int}, (-(2 ^ 63) < n ∧ n < 2 ^ 63) → Builtin.Int.intBits n ≤ 64 := fun {n} h => intBits_le_64 (by omega) (by omega)
  rcases h with h | h | h
  · exact .of_left (bits h)
  · exact .of_right (bits h)
  · have b : ∀ x : Int, Builtin.Int.intBits x ≤ x.natAbs.log2 + 1 := fun x => by
      unfold Builtin.Int.intBits
      split <;> omega
    have h1 := b i
    have h2 := b j
    have e : bitsLine = 134217728 := by decide
    unfold IntMulOk
    intro z
    rw [Bool.and_eq_true] at z
    have z2 := z.2
    unfold Builtin.Int.intTooBig at z2
    have z3 := of_decide_eq_true z2
    rw [e] at z3
    omega
theorem sc_mul (h : (-(2 ^ 63) < i ∧ i < 2 ^ 63) ∨ (-(2 ^ 63) < j ∧ j < 2 ^ 63) ∨ (i.natAbs.log2 + j.natAbs.log2 < 100000000)) : Sc2 K (rMulU K) (.int i) (.int j) (.int (i * j)) := (sc_I (mul_ok h) (ever_int _)).fst
theorem sc_mod (h : 0 < j) : Sc2 K (rI (fun _ j => 0 < j) fun i j => .int (i % j)) (.int i) (.int j) (.int (i % j)) := sc_I h (ever_int _)
theorem sc_div (h : 0 < j) (h2 : j < 2 ^ 64) : Sc2 K (rI CDivW fun i j => .int (i / j)) (.int i) (.int j) (.int (i / j)) := sc_I ⟨h, Nat.lt_of_lt_of_le (PySem.Flt.log2_lt_of (k := 64) (by decide) (by omega)) (by decide)⟩ (ever_int _)
theorem sc_pow (h : 0 ≤ j ∧ j ≤ 1000000 ∧ i.natAbs < 2 ^ 64) : Sc2 K (rI CPow fun i j => .int (i ^ j.toNat)) (.int i) (.int j) (.int (i ^ j.toNat)) := sc_I h (ever_int _)
theorem sc_lt : Sc2 K rLtU (.int i) (.int j) (.bool (decide (i < j))) := (sc_I0 (ever_bl _)).fst
theorem sc_ltS {i j : Str} : Sc2 K rLtU (.str i) (.str j) (.bool (decide (i.cps.toList < j.cps.toList))) := Sc2.snd fun H x y a b Q q => ⟨i, j, dp_str a, dp_str b, q _ (ever_bl _)⟩
theorem sc_le : Sc2 K (rI0 fun i j => .bl (decide (i ≤ j))) (.int i) (.int j) (.bool (decide (i ≤ j))) := sc_I0 (ever_bl _)
theorem sc_gt : Sc2 K (rI0 fun i j => .bl (decide (j < i))) (.int i) (.int j) (.bool (decide (j < i))) := sc_I0 (ever_bl _)
theorem sc_ge : Sc2 K (rI0 fun i j => .bl (decide (j ≤ i))) (.int i) (.int j) (.bool (decide (j ≤ i))) := sc_I0 (ever_bl _)
theorem sc_eqD' (h1 : SeqAt.shaped d1 = true) (h2 : SeqAt.shaped d2 = true) : Sc2 K (rEqU K) d1 d2 (.bool (PyData.eqv d1 d2)) := (sc_eqD h1 h2).snd
theorem sc_neD' (h1 : SeqAt.shaped d1 = true) (h2 : SeqAt.shaped d2 = true) : Sc2 K (rNeU K) d1 d2 (.bool (!PyData.eqv d1 d2)) := (sc_neD h1 h2).snd
theorem sc_eq : Sc2 K (rEqU K) (.int i) (.int j) (.bool (decide (i = j))) := Sc2.fst fun H x y a b Q q => by
  rw [dp_int a, dp_int b]; exact ⟨rfl, q _ (by rw [show decide (V.int i = V.int j) = decide (i = j) by simp]; exact ever_bl _)⟩
theorem sc_ne : Sc2 K (rNeU K) (.int i) (.int j) (.bool (!decide (i = j))) := Sc2.fst fun H x y a b Q q => by
  rw [dp_int a, dp_int b]; exact ⟨rfl, q _ (by rw [show decide (V.int i = V.int j) = decide (i = j) by simp]; exact ever_bl _)⟩
theorem sc_eqS {i j : Str} : Sc2 K (rEqU K) (.str i) (.str j) (.bool (decide (i = j))) := Sc2.fst fun H x y a b Q q => by
  rw [dp_str a, dp_str b]; exact ⟨rfl, q _ (by rw [show decide (V.str i = V.str j) = decide (i = j) by simp]; exact ever_bl _)⟩
theorem sc_neS {i j : Str} : Sc2 K (rNeU K) (.str i) (.str j) (.bool (!decide (i = j))) := Sc2.fst fun H x y a b Q q => by
  rw [dp_str a, dp_str b]; exact ⟨rfl, q _ (by rw [show decide (V.str i = V.str j) = decide (i = j) by simp]; exact ever_bl _)⟩
theorem sc_eqB {i j : Bool} : Sc2 K (rEqU K) (.bool i) (.bool j) (.bool (decide (i = j))) := Sc2.fst fun H x y a b Q q => by
  rw [dp_bl a, dp_bl b]; exact ⟨rfl, q _ (by rw [show decide (V.bl i = V.bl j) = decide (i = j) by simp]; exact ever_bl _)⟩
def isNoneD : PyData → Bool
  | .none => true
  | _ => false
theorem sc_isN : Sc2 K (fun x y H Q => y = .non ∧ Q (.bl (decide (x = .non))) H) d .none (.bool (isNoneD d)) := fun H x y a b Q q => ⟨dp_non b, by
  have e : decide (x = V.non) = isNoneD d := by cases a <;> simp [isNoneD]
  rw [e]; exact q _ (ever_bl _)⟩
theorem sc_notN : Sc2 K (fun x y H Q => y = .non ∧ Q (.bl (!decide (x = .non))) H) d .none (.bool (!isNoneD d)) := fun H x y a b Q q => ⟨dp_non b, by
  have e : decide (x = V.non) = isNoneD d := by cases a <;> simp [isNoneD]
  rw [e]; exact q _ (ever_bl _)⟩
theorem ev_neg (ha : Ev K B ta E (.z (.int i)) E1) : Ev K B (tUn (rU fun i => .int (-i)) ta) E (.z (.int (-i))) E1 := ev_un ha .z fun H x h Q q => ⟨i, dp_int h, q _ (ever_int _)⟩

/-! ### truth -/
def tTr (K : PySem.W.Frag) (ta : TE) : TT := fun σ H Q => ta σ H fun x H' => ∃ k, TruV K x H' k ∧ Q k H'
theorem pt_tr {X : Cx} {a : Expr} {ta : TE} (ha : PE X a ta) (he : ∀ whole, isTrue a X.env whole = (do let v ← whole; standAt a.pos; holding [v] (truthy v)) := by intro _; rfl) : PT X a (tTr X.K ta) := pt_truth ha he
inductive TrO (E : En) : OE → Bool → Prop
  | non : TrO E (.z .none) false
  | bl {b : Bool} : TrO E (.z (.bool b)) b
  | int {i : Int} : TrO E (.z (.int i)) (i != 0)
  | str {w : Str} (h : w.length ≤ 100000) : TrO E (.z (.str w)) ((w.length : Int) != 0)
  | tup {ds : List PyData} : TrO E (.z (.tuple ds)) (!ds.isEmpty)
  | lst {x : OE} {xs : List OE} (h : SqO E x xs) : TrO E x (!xs.isEmpty)
theorem paired_emp {α β : Type} {F : α → β → Prop} {xs : List α} {ys : List β} (h : Paired F xs ys) : (!xs.isEmpty) = !ys.isEmpty := by cases h <;> rfl
theorem tr_dp {σ : L2.St} {s : Gh} {ρ : List Addr} {v : V} (S : Sat K B σ s ρ E) (ht : TrO E x b) (o : OeR K s.G ρ x v) : TruV K v s.H b := by
  cases ht with
  | non => rw [dp_non o]; rfl
  | bl => rw [dp_bl o]; rfl
  | int => rw [dp_int o]; rfl
  | str hz => rw [dp_str o]; exact ⟨Nat.le_trans hz (by decide), rfl⟩
  | tup =>
    obtain ⟨a, vs, rfl, hl, hp⟩ := tq_dp o
    refine .inr (.inl ⟨vs, hl, ?_⟩)
    rw [← paired_emp hp]; cases ‹List PyData› <;> rfl
  | lst hz =>
    obtain ⟨a, vs, rfl, hl, hp⟩ := sq_dp S hz o
    exact .inl ⟨vs, hl, paired_emp hp⟩
theorem et_tr (h : Ev K B te E x E1) (ht : TrO E1 x b) : EvT K B (tTr K te) E b E1 := fun σ s ρ S Q q => h σ s ρ S _ fun v s1 ρ1 T1 S1 o1 => ⟨b, tr_dp S1 ht o1, q s1 ρ1 T1 S1⟩

/-! ### built-ins -/
def nameD : PyData → String
  | .none => "NoneType"
  | .bool _ => "bool"
  | .int _ => "int"
  | .str _ => "str"
  | .list _ => "list"
  | .tuple _ => "tuple"
  | .dict _ => "dict"
theorem tyx_d {H : Hp} {v : V} (h : Dp K H v d) : TyX K H v (.type (nameD d)) := by
  cases h with
  | non => exact .base .non
  | bl b => exact .base (.bl b)
  | int i => exact .base (.int i)
  | str i => exact .base (.str i)
  | lst hs _ =>
    rcases hs with (hs | ⟨o, hs⟩) | ⟨o, its, n, h1, h2, _⟩
    · exact .base (.lst hs)
    · exact .base (.frz hs)
    · exact .kList h1 h2
  | tup hs _ =>
    rcases hs with (hs | ⟨o, hs⟩) | ⟨o, its, n, h1, h2, _⟩
    · exact .base (.tup hs)
    · exact .fTuple hs
    · exact .kTuple h1 h2
/-- isinstance(x, T), T a built-in class -/
theorem ev_isi {T : String} (ha : Ev K B ta E x E1) (h1 : RdO E1 x d) (hb : kitB (nameD d) T = some b) : Ev K B (tCB (rIsi K) (tCons ta (tCons (tC (.ty T)) tNil))) E (.z (.bool b)) E1 := fun σ s ρ S Q q =>
  ha σ s ρ S _ fun v s1 ρ1 T1 S1 o1 => ⟨v, .ty T, _, _, b, rfl, .ty T, tyx_d (rd_dp S1 h1 o1), kit_ty hb, q _ s1 ρ1 T1 S1 (ever_bl _ _)⟩
def isD (T : String) (d : PyData) : Bool := nameD d == T || (T == "int" && nameD d == "bool")
def kitAll (T : String) : Bool := ["NoneType", "bool", "int", "str", "list", "tuple", "dict"].all fun n => kitB n T == some (n == T || (T == "int" && n == "bool"))
theorem kit_of_all {T : String} (h : kitAll T = true) (d : PyData) : kitB (nameD d) T = some (isD T d) := by
  unfold kitAll at h
  have m : nameD d ∈ ["NoneType", "bool", "int", "str", "list", "tuple", "dict"] := by cases d <;> simp [nameD]
  exact eq_of_beq (List.all_eq_true.mp h _ m)
theorem kit_int (d : PyData) : kitB (nameD d) "int" = some (isD "int" d) := kit_of_all (by decide +kernel) d
theorem kit_bool (d : PyData) : kitB (nameD d) "bool" = some (isD "bool" d) := kit_of_all (by decide +kernel) d
theorem kit_str (d : PyData) : kitB (nameD d) "str" = some (isD "str" d) := kit_of_all (by decide +kernel) d
theorem kit_list (d : PyData) : kitB (nameD d) "list" = some (isD "list" d) := kit_of_all (by decide +kernel) d
theorem kit_tuple (d : PyData) : kitB (nameD d) "tuple" = some (isD "tuple" d) := kit_of_all (by decide +kernel) d
theorem kit_dict (d : PyData) : kitB (nameD d) "dict" = some (isD "dict" d) := kit_of_all (by decide +kernel) d
abbrev rInt : List V → Hp → VK → Prop := fun xs H Q => (∃ i, xs = [V.int i] ∧ Q (.int i) H) ∨ ∃ k, xs = [V.bl k] ∧ Q (.int (if k then 1 else 0)) H
theorem sc_int : ScC K rInt [.int i] (.int i) := fun H vs h Q q => by
  obtain ⟨v, rfl, hv⟩ := dps1 h
  exact .inl ⟨i, by rw [dp_int hv], q _ (ever_int _)⟩
theorem sc_intB : ScC K rInt [.bool b] (.int (if b then 1 else 0)) := fun H vs h Q q => by
  obtain ⟨v, rfl, hv⟩ := dps1 h
  exact .inr ⟨b, by rw [dp_bl hv], q _ (ever_int _)⟩
abbrev rAbs : List V → Hp → VK → Prop := fun xs H Q => ∃ i, xs = [V.int i] ∧ Q (.int (if i < 0 then -i else i)) H
theorem sc_abs : ScC K rAbs [.int i] (.int (if i < 0 then -i else i)) := fun H vs h Q q => by
  obtain ⟨v, rfl, hv⟩ := dps1 h
  exact ⟨i, by rw [dp_int hv], q _ (ever_int _)⟩
abbrev rLenSq (K : PySem.W.Frag) : List V → Hp → VK → Prop := fun xs H Q => ∃ p ys, xs = [V.ref p] ∧ (SqL K H p ys ∨ SqT K H p ys) ∧ Q (.int ys.length) H
abbrev rLenStr : List V → Hp → VK → Prop := fun xs H Q => ∃ z, xs = [V.str z] ∧ z.length ≤ sizeLine ∧ Q (.int z.length) H
abbrev rLenU (K : PySem.W.Frag) : List V → Hp → VK → Prop := rcOr (rLenSq K) rLenStr
theorem call_lenU {X : Cx} : CallR X (.builtin "len") (rLenU X.K) := callr_or call_len_seq call_len_str
theorem ev_lenL (ha : Ev K B ta E x E1) (h : SqO E1 x xs) : Ev K B (tCB (rLenU K) (tCons ta tNil)) E (.z (.int xs.length)) E1 := fun σ s ρ S Q q =>
  ha σ s ρ S _ fun v s1 ρ1 T1 S1 o1 => by
    obtain ⟨a, vs, rfl, hl, hp⟩ := sq_dp S1 h o1
    exact .inl ⟨a, vs, rfl, .inl hl, q _ s1 ρ1 T1 S1 (by rw [paired_len hp]; exact ever_int _ _)⟩
theorem ev_lenT {ds : List PyData} (ha : Ev K B ta E (.z (.tuple ds)) E1) : Ev K B (tCB (rLenU K) (tCons ta tNil)) E (.z (.int ds.length)) E1 := fun σ s ρ S Q q =>
  ha σ s ρ S _ fun v s1 ρ1 T1 S1 o1 => by
    obtain ⟨a, vs, rfl, hl, hp⟩ := tq_dp o1
    exact .inl ⟨a, vs, rfl, .inr hl, q _ s1 ρ1 T1 S1 (by rw [← paired_len hp, List.length_map]; exact ever_int _ _)⟩
theorem ev_lenS {w : Str} (ha : Ev K B ta E (.z (.str w)) E1) (h : w.length ≤ 100000) : Ev K B (tCB (rLenU K) (tCons ta tNil)) E (.z (.int w.length)) E1 := fun σ s ρ S Q q =>
  ha σ s ρ S _ fun v s1 ρ1 T1 S1 o1 => .inr ⟨w, by rw [dp_str o1], Nat.le_trans h (by decide), q _ s1 ρ1 T1 S1 (ever_int _ _)⟩
abbrev rMin2 : List V → Hp → VK → Prop := fun xs H Q => ∃ i j, xs = [V.int i, V.int j] ∧ Q (.int (if j < i then j else i)) H
abbrev rMax2 : List V → Hp → VK → Prop := fun xs H Q => ∃ i j, xs = [V.int i, V.int j] ∧ Q (.int (if j > i then j else i)) H
theorem sc_min2 : ScC K rMin2 [.int i, .int j] (.int (min i j)) := fun H vs h Q q => by
  obtain ⟨v, w, rfl, h1, h2⟩ := dps2 h
  have e : (if j < i then j else i) = min i j := by rw [Int.min_def]; split <;> split <;> omega
  exact ⟨i, j, by rw [dp_int h1, dp_int h2], by rw [e]; exact q _ (ever_int _)⟩
theorem sc_max2 : ScC K rMax2 [.int i, .int j] (.int (max i j)) := fun H vs h Q q => by
  obtain ⟨v, w, rfl, h1, h2⟩ := dps2 h
  have e : (if j > i then j else i) = max i j := by rw [Int.max_def]; split <;> split <;> omega
  exact ⟨i, j, by rw [dp_int h1, dp_int h2], by rw [e]; exact q _ (ever_int _)⟩
end

/-! ### where a def stands -/
/-- x is a def of the module that keeps F, by at most level k -/
structure Has (P : Program) (w : World) (K : PySem.W.Frag) (mg : Str → Option Value) (base : Heap) (CX : CXT) (k : Nat) (x : Str) (ps : List Str) (F : DSp) : Prop where
  ex : ∃ f fd, FnOk P w K mg base CX k f fd ps (spD K ps.length F) ∧ mg x = some (.ref f) ∧ PySem.W.keepIn K (.ref f) = true ∧ Binds K fd ps []
theorem Has.mono {P : Program} {w : World} {K : PySem.W.Frag} {mg : Str → Option Value} {base : Heap} {CX : CXT} {j k : Nat} {x : Str} {ps : List Str} {F : DSp} (h : Has P w K mg base CX j x ps F) (l : j ≤ k) : Has P w K mg base CX k x ps F := by
  obtain ⟨f, fd, h1, h2⟩ := h.ex
  exact ⟨f, fd, h1.mono l, h2⟩
section
variable {X : Cx} {x : Str} {p pos : Pos} {e : Expr} {es : List Expr} {ta : TA} {k : Nat} {ps : List Str} {F : DSp} {CX : CXT} {E : XK}
theorem pe_has {n : Nat} (h : Has X.prog X.w X.K X.mg X.base CX k x ps F) (hr : Room k X.A) (hx : Passes CX X E) (hg : Gl X x) (ha : PA X (e :: es) ta) (hd : (x == ("__debug__" : Str)) = false)
    (he : starEach (e :: es) X.env = (false, eval e X.env) :: starEach es X.env := by rfl) (hpl : (backTo pos (starEach es X.env)).any (·.1) = false := by rfl) (hn : ps.length = n := by rfl) : PE X (.Call (.Name x p) (e :: es) [] pos) (tCall (spD X.K n F) [] E ta) := by
  subst hn
  obtain ⟨f, fd, G, h1, h2, h3⟩ := h.ex
  exact pe_call G hr hg h1 h2 h3 .nil hx ha hd he hpl
theorem pe_has0 {n : Nat} (h : Has X.prog X.w X.K X.mg X.base CX k x ps F) (hr : Room k X.A) (hx : Passes CX X E) (hg : Gl X x) (hd : (x == ("__debug__" : Str)) = false) (hn : ps.length = n := by rfl) : PE X (.Call (.Name x p) [] [] pos) (tCall (spD X.K n F) [] E tNil) := by
  subst hn
  obtain ⟨f, fd, G, h1, h2, h3⟩ := h.ex
  exact pe_call0 G hr hg h1 h2 h3 .nil hx hd
/-- a module's constant -/
theorem pe_ci {i : Int} (h : ∃ t, X.mg x = some (.int i t)) (hg : Gl X x) (hd : (x == ("__debug__" : Str)) = false := by decide) : PE X (.Name x p) (tC (.int i)) := by
  obtain ⟨t, h⟩ := h
  exact pe_glob hg h ⟨t, rfl⟩ hd
theorem pe_cs {i : Str} (h : ∃ t, X.mg x = some (.str i t)) (hg : Gl X x) (hd : (x == ("__debug__" : Str)) = false := by decide) : PE X (.Name x p) (tC (.str i)) := by
  obtain ⟨t, h⟩ := h
  exact pe_glob hg h ⟨t, rfl⟩ hd
end
end Y

/-! Y6: names of readings; the module's built-ins; steps by themselves -/
namespace Y
open PySem L2 PyProof.Rows
abbrev rSubI : R2 := rI0 fun i j => .int (i - j)
abbrev rModI : R2 := rI (fun _ j => 0 < j) fun i j => .int (i % j)
abbrev rDivI : R2 := rI CDivW fun i j => .int (i / j)
abbrev rPowI : R2 := rI CPow fun i j => .int (i ^ j.toNat)
abbrev rLeI : R2 := rI0 fun i j => .bl (decide (i ≤ j))
abbrev rGtI : R2 := rI0 fun i j => .bl (decide (j < i))
abbrev rGeI : R2 := rI0 fun i j => .bl (decide (j ≤ i))
abbrev rNegI : V → Hp → VK → Prop := rU fun i => .int (-i)
abbrev rIsNo : R2 := fun x y H Q => y = V.non ∧ Q (.bl (decide (x = .non))) H
abbrev rIsNotNo : R2 := fun x y H Q => y = V.non ∧ Q (.bl (!decide (x = .non))) H
abbrev rListOf (K : PySem.W.Frag) : List V → Hp → VK → Prop := fun xs H Q => ∃ p ys, xs = [V.ref p] ∧ (SqL K H p ys ∨ SqT K H p ys) ∧ ∀ l, H l = none → Q (.ref l) (upd H l (.lst ys))
abbrev rTupleOf (K : PySem.W.Frag) : List V → Hp → VK → Prop := fun xs H Q => ∃ p ys, xs = [V.ref p] ∧ ((SqL K H p ys ∧ ∀ l, H l = none → Q (.ref l) (upd H l (.tup ys))) ∨ (SqT K H p ys ∧ Q (.ref p) H))
structure Bn (mg : Str → Option Value) : Prop where
  b_abs : mg "abs" = none
  b_all : mg "all" = none
  b_any : mg "any" = none
  b_dict : mg "dict" = none
  b_enumerate : mg "enumerate" = none
  b_int : mg "int" = none
  b_bool : mg "bool" = none
  b_isinstance : mg "isinstance" = none
  b_len : mg "len" = none
  b_list : mg "list" = none
  b_max : mg "max" = none
  b_min : mg "min" = none
  b_range : mg "range" = none
  b_repr : mg "repr" = none
  b_reversed : mg "reversed" = none
  b_set : mg "set" = none
  b_sorted : mg "sorted" = none
  b_str : mg "str" = none
  b_sum : mg "sum" = none
  b_tuple : mg "tuple" = none
  b_zip : mg "zip" = none
  b_ValueError : mg "ValueError" = none
section
variable {K : PySem.W.Frag} {B : Bs} {E E1 E2 E3 : En} {ta tb tc te : TE} {t u : TT} {x y z : OE} {d d1 d2 : PyData} {r r' : R2} {xs ys : List OE} {ar : TA} {b c : Bool} {i j : Int} {D : Dn}
theorem ev_int1 (ha : Ev K B ta E (.z (.int i)) E1) : Ev K B (tCB rInt (tCons ta tNil)) E (.z (.int i)) E1 := ev_cb (ea_cons ha ea_nil) (.cons .z .nil) sc_int
theorem ev_intB (ha : Ev K B ta E (.z (.bool b)) E1) : Ev K B (tCB rInt (tCons ta tNil)) E (.z (.int (if b then 1 else 0))) E1 := ev_cb (ea_cons ha ea_nil) (.cons .z .nil) sc_intB
theorem ev_abs (ha : Ev K B ta E (.z (.int i)) E1) : Ev K B (tCB rAbs (tCons ta tNil)) E (.z (.int (if i < 0 then -i else i))) E1 := ev_cb (ea_cons ha ea_nil) (.cons .z .nil) sc_abs
theorem ev_min2 (ha : Ev K B ta E (.z (.int i)) E1) (hb : Ev K B tb E1 (.z (.int j)) E2) : Ev K B (tCB rMin2 (tCons ta (tCons tb tNil))) E (.z (.int (min i j))) E2 := ev_cb (ea_cons ha (ea_cons hb ea_nil)) (.cons .z (.cons .z .nil)) sc_min2
theorem ev_max2 (ha : Ev K B ta E (.z (.int i)) E1) (hb : Ev K B tb E1 (.z (.int j)) E2) : Ev K B (tCB rMax2 (tCons ta (tCons tb tNil))) E (.z (.int (max i j))) E2 := ev_cb (ea_cons ha (ea_cons hb ea_nil)) (.cons .z (.cons .z .nil)) sc_max2
theorem w_iff {t1 t2 : TS} {p : Prop} {ip : Decidable p} (h : EvT K B t E (decide p) E1) (k1 : p → W K B t1 E1 D) (k2 : ¬ p → W K B t2 E1 D) : W K B (tIfS t t1 t2) E D :=
  w_if h (fun e => k1 (of_decide_eq_true e)) (fun e => k2 (of_decide_eq_false e))
theorem ev_c1 {F : DSp} {E0 : XK} (ha : Ev K B ta E (.z d1) E1) (hF : ∀ (Φ : OE → List OD → Prop) (Ψ : Value → Xf → List OD → Prop), Φ (.z d) [] → F [.z d1] [] Φ Ψ) : Ev K B (tCall (spD K 1 F) [] E0 (tCons ta tNil)) E (.z d) E1 :=
  ev_call0 (n := 1) (ds := [d1]) rfl (ea_cons ha ea_nil) hF
theorem ev_c2 {F : DSp} {E0 : XK} (ha : Ev K B ta E (.z d1) E1) (hb : Ev K B tb E1 (.z d2) E2) (hF : ∀ (Φ : OE → List OD → Prop) (Ψ : Value → Xf → List OD → Prop), Φ (.z d) [] → F [.z d1, .z d2] [] Φ Ψ) : Ev K B (tCall (spD K 2 F) [] E0 (tCons ta (tCons tb tNil))) E (.z d) E2 :=
  ev_call0 (n := 2) (ds := [d1, d2]) rfl (ea_cons ha (ea_cons hb ea_nil)) hF
theorem ev_c3 {F : DSp} {E0 : XK} {d3 : PyData} (ha : Ev K B ta E (.z d1) E1) (hb : Ev K B tb E1 (.z d2) E2) (hc : Ev K B tc E2 (.z d3) E3) (hF : ∀ (Φ : OE → List OD → Prop) (Ψ : Value → Xf → List OD → Prop), Φ (.z d) [] → F [.z d1, .z d2, .z d3] [] Φ Ψ) : Ev K B (tCall (spD K 3 F) [] E0 (tCons ta (tCons tb (tCons tc tNil)))) E (.z d) E3 :=
  ev_call0 (n := 3) (ds := [d1, d2, d3]) rfl (ea_cons ha (ea_cons hb (ea_cons hc ea_nil))) hF
theorem w_yes {t1 t2 : TS} (h : EvT K B t E true E1) (k : W K B t1 E1 D) : W K B (tIfS t t1 t2) E D := w_if h (fun _ => k) (fun e => nomatch e)
theorem w_no {t1 t2 : TS} (h : EvT K B t E false E1) (k : W K B t2 E1 D) : W K B (tIfS t t1 t2) E D := w_if h (fun e => nomatch e) (fun _ => k)
/-- a word between two statements -/
theorem w_mid {t1 t2 : TS} (M : En → Prop) (h1 : W K B t1 E { D with nx := M }) (h2 : ∀ E', M E' → W K B t2 E' D) : W K B (tSeq t1 t2) E D := w_seq fun σ s ρ D0 S C =>
  h1 σ s ρ D0 S ⟨fun σ' s' ρ' E' S' m => C.nx σ' s' ρ' E' S' (h2 E' m), C.rt, C.bk, C.ct⟩
end
/-- the law's own end -/
theorem dp_ints {K : PySem.W.Frag} {H : Hp} : ∀ ns : List Int, DpAll K H (ns.map V.int) (ns.map PyData.int)
  | [] => .nil
  | n :: ns => .cons (.int n) (dp_ints ns)
theorem law_sp {K : PySem.W.Frag} {F : DSp} {H : Hp} {a : Addr} {ns : List Int} (h : SqL K H a (ns.map V.int)) (hF : ∀ Φ Ψ, Φ (.z (.bool true)) [] → F [.z (.list (ns.map .int))] [] Φ Ψ) : spD K 1 F [.ref a] H (fun v _ => v = .bl true) fun _ _ _ => False :=
  ⟨rfl, ⟨H, H, fun _ _ z => z⟩, [], [.z (.list (ns.map .int))], [], rfl, ⟨rfl, List.nodup_nil, fun i a e => by simp at e, fun i a o e => by simp at e⟩, .cons (.lst h (dp_ints ns)) .nil, hF _ _ fun v s' ρ' _ _ o => dp_bl o⟩
theorem Has.of {P : Program} {w : World} {K : PySem.W.Frag} {mg : Str → Option Value} {base : Heap} {CX : CXT} {k : Nat} {x : Str} {ps : List Str} {F : DSp} {f : Addr} {fd : FuncData} (h : FnOk P w K mg base CX k f fd ps (spD K ps.length F)) (m : mg x = some (.ref f)) (kp : PySem.W.keepIn K (.ref f) = true) (b : Binds K fd ps []) : Has P w K mg base CX k x ps F := ⟨f, fd, h, m, kp, b⟩
end Y

/-! Y7: the same, told by what is wanted behind (for drawn values, for expressions that change an owned object) -/
namespace Y
open PySem L2 PyProof.Rows
section
variable (K : PySem.W.Frag) (B : Bs)
def EvP (te : TE) (E : En) (P : OE → En → Prop) : Prop := ∀ σ s ρ, Sat K B σ s ρ E → ∀ Q : VK,
  (∀ v s' ρ' x E', P x E' → Step s ρ s' ρ' → Sat K B σ s' ρ' E' → OeR K s'.G ρ' x v → Q v s'.H) → te σ s.H Q
def EvAP (ta : TA) (E : En) (P : List OE → En → Prop) : Prop := ∀ σ s ρ, Sat K B σ s ρ E → ∀ Q : List V → Hp → Prop,
  (∀ vs s' ρ' xs E', P xs E' → Step s ρ s' ρ' → Sat K B σ s' ρ' E' → OesR K s'.G ρ' xs vs → Q vs s'.H) → ta σ s.H Q
def EvTP (tt : TT) (E : En) (P : Bool → En → Prop) : Prop := ∀ σ s ρ, Sat K B σ s ρ E → ∀ Q : Bool → Hp → Prop,
  (∀ b s' ρ' E', P b E' → Step s ρ s' ρ' → Sat K B σ s' ρ' E' → Q b s'.H) → tt σ s.H Q
/-- a new list of these is being made -/
def EvNP (te : TE) (E : En) (P : List OE → En → Prop) : Prop := ∀ σ s ρ, Sat K B σ s ρ E → ∀ Q : VK,
  (∀ vs s' ρ' xs E', P xs E' → Step s ρ s' ρ' → Sat K B σ s' ρ' E' → OesR K s'.G ρ' xs vs → ∀ p, s'.H p = none → Q (.ref p) (upd s'.H p (.lst vs))) → te σ s.H Q
end
section
variable {K : PySem.W.Frag} {B : Bs} {E E1 E2 E3 : En} {ta tb tc te : TE} {t u : TT} {x y z : OE} {d d1 d2 : PyData} {r r' : R2} {xs ys : List OE} {ar : TA} {b c : Bool} {i j : Int} {D : Dn} {P P' : OE → En → Prop} {PA' : List OE → En → Prop} {PT : Bool → En → Prop}
theorem p_of (h : Ev K B te E x E1) (k : P x E1) : EvP K B te E P := fun σ s ρ S Q q => h σ s ρ S Q fun v s' ρ' T S' o => q v s' ρ' x E1 k T S' o
theorem pt_of (h : EvT K B t E b E1) (k : PT b E1) : EvTP K B t E PT := fun σ s ρ S Q q => h σ s ρ S Q fun s' ρ' T S' => q b s' ρ' E1 k T S'
theorem p_mono (h : EvP K B te E P) (k : ∀ x E', P x E' → P' x E') : EvP K B te E P' := fun σ s ρ S Q q => h σ s ρ S Q fun v s' ρ' x E' p T S' o => q v s' ρ' x E' (k x E' p) T S' o
theorem p_var {i : Nat} (h : E.sl[i]? = some (some x)) (k : P x E) : EvP K B (tVar i) E P := p_of (ev_var h) k
theorem p_int {i : Int} (k : P (.z (.int i)) E) : EvP K B (tC (.int i)) E P := p_of ev_int k
theorem p_str {i : Str} (k : P (.z (.str i)) E) : EvP K B (tC (.str i)) E P := p_of ev_str k
theorem p_bl {i : Bool} (k : P (.z (.bool i)) E) : EvP K B (tC (.bl i)) E P := p_of ev_bl k
theorem p_non (k : P (.z .none) E) : EvP K B (tC .non) E P := p_of ev_non k
/-- what a two-place operation is asked -/
def OpP (K : PySem.W.Frag) (r : R2) (x y : OE) (E : En) (P : OE → En → Prop) : Prop := ∃ d1 d2 d, RdO E x d1 ∧ RdO E y d2 ∧ Sc2 K r d1 d2 d ∧ P (.z d) E
theorem p_op (h : EvP K B ta E fun x E1 => EvP K B tb E1 fun y E2 => OpP K r x y E2 P) : EvP K B (tOp r ta tb) E P := fun σ s ρ S Q q =>
  h σ s ρ S _ fun v s1 ρ1 x E1 h1 T1 S1 o1 => h1 σ s1 ρ1 S1 _ fun w s2 ρ2 y E2 h2 T2 S2 o2 => by
    obtain ⟨d1, d2, d, r1, r2, hr, p⟩ := h2
    exact hr s2.H v w (rd_dp S2 r1 (oe_up T2.g T2.r o1)) (rd_dp S2 r2 o2) Q fun v' e => q v' s2 ρ2 _ E2 p (T1.trans T2) S2 (e s2.G)
theorem op_p (h : Sc2 K r d1 d2 d) (k : P (.z d) E) : OpP K r (.z d1) (.z d2) E P := ⟨d1, d2, d, .z, .z, h, k⟩
theorem p_neg (h : EvP K B ta E fun x E1 => ∃ i : Int, x = .z (.int i) ∧ P (.z (.int (-i))) E1) : EvP K B (tUn rNegI ta) E P := fun σ s ρ S Q q =>
  h σ s ρ S _ fun v s1 ρ1 x E1 ⟨i, e, p⟩ T1 S1 o1 => by subst e; exact ⟨i, dp_int o1, q _ s1 ρ1 _ E1 p T1 S1 (ever_int _ _)⟩
theorem a_nil (k : PA' [] E) : EvAP K B tNil E PA' := fun σ s ρ S Q q => q [] s ρ [] E k (.refl _ _) S .nil
theorem a_cons (h : EvP K B ta E fun x E1 => EvAP K B ar E1 fun xs E2 => PA' (x :: xs) E2) : EvAP K B (tCons ta ar) E PA' := fun σ s ρ S Q q =>
  h σ s ρ S _ fun v s1 ρ1 x E1 h1 T1 S1 o1 => h1 σ s1 ρ1 S1 _ fun vs s2 ρ2 xs E2 p T2 S2 o2 => q (v :: vs) s2 ρ2 (x :: xs) E2 p (T1.trans T2) S2 (.cons (oe_up T2.g T2.r o1) o2)
theorem p_tup (h : EvAP K B ar E fun xs E1 => ∃ ds : List PyData, xs = ds.map .z ∧ ds.length ≤ 100000 ∧ P (.z (.tuple ds)) E1) : EvP K B (tTup ar) E P := fun σ s ρ S Q q =>
  h σ s ρ S _ fun vs s1 ρ1 xs E1 ⟨ds, e, hl, p⟩ T1 S1 o1 => by
    subst e
    refine ⟨by rw [← paired_len o1, List.length_map]; exact Nat.le_trans hl (by decide), fun a ha => ?_⟩
    have hg := (S1.fresh ha).1
    refine q (.ref a) (s1.newZ a (.tup vs)) ρ1 _ E1 p (T1.trans (stepZ _ _ _ hg)) (S1.newZ ha _) ?_
    exact .tup (SqT.of (show upd s1.G a _ a = _ from upd_same)) (dps_up (kept_new hg) _ _ (dps_of o1))
theorem n_lst (h : EvAP K B ar E fun xs E1 => xs.length ≤ 100000 ∧ PA' xs E1) : EvNP K B (tLst ar) E PA' := fun σ s ρ S Q q =>
  h σ s ρ S _ fun vs s1 ρ1 xs E1 ⟨hl, p⟩ T1 S1 o1 => ⟨by rw [← paired_len o1]; exact Nat.le_trans hl (by decide), fun a ha => q vs s1 ρ1 xs E1 p T1 S1 o1 a ha⟩
/-- the new list is frozen | owned -/
theorem p_Z (h : EvNP K B te E fun xs E1 => ∃ ds : List PyData, xs = ds.map .z ∧ P (.z (.list ds)) E1) : EvP K B te E P := fun σ s ρ S Q q =>
  h σ s ρ S _ fun vs s1 ρ1 xs E1 ⟨ds, e, p⟩ T1 S1 o1 a ha => by
    subst e
    have hg := (S1.fresh ha).1
    refine q (.ref a) (s1.newZ a (.lst vs)) ρ1 _ E1 p (T1.trans (stepZ _ _ _ hg)) (S1.newZ ha _) ?_
    exact .lst (SqL.of (show upd s1.G a _ a = _ from upd_same)) (dps_up (kept_new hg) _ _ (dps_of o1))
theorem p_O (h : EvNP K B te E fun xs E1 => P (.r E1.ow.length) ⟨E1.sl, E1.ow ++ [.lst xs]⟩) : EvP K B te E P := fun σ s ρ S Q q =>
  h σ s ρ S _ fun vs s1 ρ1 xs E1 p T1 S1 o1 a ha => by
    have hg := (S1.fresh ha).1
    have rr : ∃ t, ρ1 ++ [a] = ρ1 ++ t := ⟨[a], rfl⟩
    refine q (.ref a) (s1.newO a (.lst vs) hg) (ρ1 ++ [a]) _ _ p (T1.trans ⟨fun _ _ z => z, rr⟩) (S1.newO ha (d := .lst xs) ⟨vs, rfl, oes_up (fun _ _ z => z) rr o1⟩) ⟨a, ?_, rfl⟩
    rw [← S1.own.len]; simp
/-! ### items, parts -/
inductive IxO (E : En) : OE → Int → OE → Prop
  | l {x xs i e} (h : SqO E x xs) (h2 : atI xs i = some e) : IxO E x i e
  | t {ds : List PyData} {i : Int} {e : PyData} (h2 : atI ds i = some e) : IxO E (.z (.tuple ds)) i (.z e)
  | s {w : Str} {i : Int} {c : Nat} (hl : w.length ≤ 100000) (h2 : atI w.cps.toList i = some c) : IxO E (.z (.str w)) i (.z (.str ⟨#[c]⟩))
theorem at_pair {α β : Type} {F : α → β → Prop} {xs : List α} {ys : List β} {i : Int} {e : α} (hp : Paired F xs ys) (h2 : atI xs i = some e) : ∃ v, atI ys i = some v ∧ F e v := by
  obtain ⟨j, e1, e2, e3, e4, e5⟩ := atI_get h2
  obtain ⟨v', g1, g2⟩ := paired_get' hp e2
  refine ⟨v', ?_, g2⟩
  unfold atI at h2 ⊢
  rw [← paired_len hp]
  cases en : ixN xs.length i with
  | none => rw [en] at h2; cases h2
  | some k =>
    have e6 := (ixN_seq en).1
    rw [e1] at e6; cases e6
    exact g1
theorem p_ix (h : EvP K B ta E fun x E1 => EvP K B tb E1 fun y E2 => ∃ (i : Int) (e : OE), y = .z (.int i) ∧ IxO E2 x i e ∧ P e E2) : EvP K B (tOp (rIx K) ta tb) E P := fun σ s ρ S Q q =>
  h σ s ρ S _ fun v s1 ρ1 x E1 h1 T1 S1 o1 => h1 σ s1 ρ1 S1 _ fun w s2 ρ2 y E2 ⟨i, e, ey, hx, p⟩ T2 S2 o2 => by
    subst ey
    have o1' := oe_up T2.g T2.r o1
    cases hx with
    | l h h2 =>
      obtain ⟨a, vs, rfl, hs, hp⟩ := sq_dp S2 h o1'
      obtain ⟨v', e1, e2⟩ := at_pair hp h2
      exact Or.inl ⟨a, vs, i, v', rfl, dp_int o2, hs, e1, q v' s2 ρ2 e E2 p (T1.trans T2) S2 e2⟩
    | t h2 =>
      obtain ⟨a, vs, rfl, hs, hp⟩ := tq_dp o1'
      obtain ⟨v', e1, e2⟩ := at_pair (paired_map_l hp) h2
      exact Or.inr (Or.inl ⟨a, vs, i, v', rfl, dp_int o2, hs, e1, q v' s2 ρ2 _ E2 p (T1.trans T2) S2 e2⟩)
    | s hl h2 =>
      have e1 := dp_str o1'
      subst e1
      exact Or.inr (Or.inr ⟨_, i, _, rfl, dp_int o2, Nat.le_trans hl (by decide), h2, q _ s2 ρ2 _ E2 p (T1.trans T2) S2 (ever_str _ _)⟩)
/-! ### tests and choices -/
theorem t_test (h : EvP K B te E fun x E1 => ∃ b, x = .z (.bool b) ∧ PT b E1) : EvTP K B (tTest te) E PT := fun σ s ρ S Q q =>
  h σ s ρ S _ fun v s1 ρ1 x E1 ⟨b, e, p⟩ T1 S1 o1 => by subst e; exact ⟨b, dp_bl o1, q b s1 ρ1 E1 p T1 S1⟩
theorem t_B (h : EvP K B te E fun x E1 => ∃ b, x = .z (.bool b) ∧ PT b E1) : EvTP K B (tB te) E PT := fun σ s ρ S Q q =>
  h σ s ρ S _ fun v s1 ρ1 x E1 ⟨b, e, p⟩ T1 S1 o1 => by subst e; exact ⟨b, dp_bl o1, q b s1 ρ1 E1 p T1 S1⟩
theorem t_not (h : EvTP K B t E fun b E1 => PT (!b) E1) : EvTP K B (tNot t) E PT := fun σ s ρ S Q q => h σ s ρ S _ fun b s1 ρ1 E1 p T1 S1 => q (!b) s1 ρ1 E1 p T1 S1
theorem t_and (h : EvTP K B t E fun b E1 => (b = true → EvTP K B u E1 PT) ∧ (b = false → PT false E1)) : EvTP K B (tAnd t u) E PT := fun σ s ρ S Q q => h σ s ρ S _ fun b s1 ρ1 E1 p T1 S1 => by
  cases b with
  | true => exact iteT (p.1 rfl σ s1 ρ1 S1 _ fun b s2 ρ2 E2 p2 T2 S2 => q b s2 ρ2 E2 p2 (T1.trans T2) S2)
  | false => exact iteF (q false s1 ρ1 E1 (p.2 rfl) T1 S1)
theorem t_or (h : EvTP K B t E fun b E1 => (b = true → PT true E1) ∧ (b = false → EvTP K B u E1 PT)) : EvTP K B (tOr t u) E PT := fun σ s ρ S Q q => h σ s ρ S _ fun b s1 ρ1 E1 p T1 S1 => by
  cases b with
  | true => exact iteT (q true s1 ρ1 E1 (p.1 rfl) T1 S1)
  | false => exact iteF (p.2 rfl σ s1 ρ1 S1 _ fun b s2 ρ2 E2 p2 T2 S2 => q b s2 ρ2 E2 p2 (T1.trans T2) S2)
theorem t_tr (h : EvP K B te E fun x E1 => ∃ b, TrO E1 x b ∧ PT b E1) : EvTP K B (tTr K te) E PT := fun σ s ρ S Q q =>
  h σ s ρ S _ fun v s1 ρ1 x E1 ⟨b, ht, p⟩ T1 S1 o1 => ⟨b, tr_dp S1 ht o1, q b s1 ρ1 E1 p T1 S1⟩
theorem p_if (h : EvTP K B t E fun b E1 => (b = true → EvP K B ta E1 P) ∧ (b = false → EvP K B tb E1 P)) : EvP K B (tIf t ta tb) E P := fun σ s ρ S Q q => h σ s ρ S _ fun b s1 ρ1 E1 p T1 S1 => by
  cases b with
  | true => exact iteT (p.1 rfl σ s1 ρ1 S1 _ fun w s2 ρ2 x E2 p2 T2 S2 o2 => q w s2 ρ2 x E2 p2 (T1.trans T2) S2 o2)
  | false => exact iteF (p.2 rfl σ s1 ρ1 S1 _ fun w s2 ρ2 x E2 p2 T2 S2 o2 => q w s2 ρ2 x E2 p2 (T1.trans T2) S2 o2)
theorem p_andV (h : EvP K B ta E fun x E1 => ∃ b, x = .z (.bool b) ∧ (b = true → EvP K B tb E1 P) ∧ (b = false → P (.z (.bool false)) E1)) : EvP K B (tAndV ta tb) E P := fun σ s ρ S Q q => h σ s ρ S _ fun v s1 ρ1 x E1 ⟨b, e, p⟩ T1 S1 o1 => by
  subst e
  refine ⟨b, dp_bl o1, ?_⟩
  cases b with
  | true => exact iteT (p.1 rfl σ s1 ρ1 S1 _ fun w s2 ρ2 x E2 p2 T2 S2 o2 => q w s2 ρ2 x E2 p2 (T1.trans T2) S2 o2)
  | false => exact iteF (q _ s1 ρ1 _ E1 (p.2 rfl) T1 S1 (ever_bl false _))
theorem p_orV (h : EvP K B ta E fun x E1 => ∃ b, x = .z (.bool b) ∧ (b = true → P (.z (.bool true)) E1) ∧ (b = false → EvP K B tb E1 P)) : EvP K B (tOrV ta tb) E P := fun σ s ρ S Q q => h σ s ρ S _ fun v s1 ρ1 x E1 ⟨b, e, p⟩ T1 S1 o1 => by
  subst e
  refine ⟨b, dp_bl o1, ?_⟩
  cases b with
  | true => exact iteT (q _ s1 ρ1 _ E1 (p.1 rfl) T1 S1 (ever_bl true _))
  | false => exact iteF (p.2 rfl σ s1 ρ1 S1 _ fun w s2 ρ2 x E2 p2 T2 S2 o2 => q w s2 ρ2 x E2 p2 (T1.trans T2) S2 o2)
theorem p_notV (h : EvP K B ta E fun x E1 => ∃ b, x = .z (.bool b) ∧ P (.z (.bool (!b))) E1) : EvP K B (tNotV ta) E P := fun σ s ρ S Q q => h σ s ρ S _ fun v s1 ρ1 x E1 ⟨b, e, p⟩ T1 S1 o1 => by
  subst e
  exact ⟨b, dp_bl o1, q _ s1 ρ1 _ E1 p T1 S1 (ever_bl _ _)⟩
end
end Y

/-! Y8: calls, lists by their methods, parts, walks, comprehensions, by what is wanted behind -/
namespace Y
open PySem L2 PyProof.Rows
section
variable {K : PySem.W.Frag} {B : Bs} {E E1 E2 E3 : En} {ta tb tc te to : TE} {t u : TT} {t1 t2 ts : TS} {x y z : OE} {d d1 d2 : PyData} {r r' : R2} {xs ys : List OE} {ar : TA} {b c : Bool} {i j : Int} {D : Dn} {P P' : OE → En → Prop} {PA' : List OE → En → Prop} {PT : Bool → En → Prop} {σ : L2.St} {s s' : Gh} {ρ ρ' : List Addr}
/-! ### statements -/
theorem w_asgP {i : Nat} (h : EvP K B te E fun x E1 => D.nx ⟨E1.sl.set i (some x), E1.ow⟩) : W K B (tAsg te (gName i)) E D := fun σ s ρ D0 S C =>
  h σ s ρ S _ fun v s1 ρ1 x E1 k T1 S1 o1 => C.nx _ s1 ρ1 _ (S1.set o1 i) k
theorem w_retP (h : EvP K B te E D.rt) : W K B (tRet te) E D := fun σ s ρ D0 S C =>
  h σ s ρ S _ fun v s1 ρ1 x E1 k T1 S1 o1 => C.rt v σ s1 ρ1 E1 x S1 o1 k
theorem w_dropP (h : EvP K B te E fun _ E1 => D.nx E1) : W K B (tDrop te) E D := fun σ s ρ D0 S C =>
  h σ s ρ S _ fun v s1 ρ1 x E1 k T1 S1 o1 => C.nx σ s1 ρ1 E1 S1 k
theorem w_ifP (h : EvTP K B t E fun b E1 => (b = true → W K B t1 E1 D) ∧ (b = false → W K B t2 E1 D)) : W K B (tIfS t t1 t2) E D := fun σ s ρ D0 S C =>
  h σ s ρ S _ fun b s1 ρ1 E1 k T1 S1 => by
    cases b with
    | true => exact iteT (k.1 rfl σ s1 ρ1 D0 S1 C)
    | false => exact iteF (k.2 rfl σ s1 ρ1 D0 S1 C)
/-- a target, by what is wanted behind it -/
def TgP (K : PySem.W.Frag) (B : Bs) (g : TG) (y : OE) (E : En) (R : En → Prop) : Prop := ∀ σ s ρ v, Sat K B σ s ρ E → OeR K s.G ρ y v → ∀ Q : L2.St → Hp → Prop,
  (∀ σ' s' ρ' E', R E' → Sat K B σ' s' ρ' E' → Q σ' s'.H) → g v σ s.H Q
theorem w_tgP {g : TG} (h : EvP K B te E fun x E1 => TgP K B g x E1 D.nx) : W K B (tAsg te g) E D := fun σ s ρ D0 S C =>
  h σ s ρ S _ fun v s1 ρ1 x E1 k T1 S1 o1 => k σ s1 ρ1 v S1 o1 _ fun σ' s' ρ' E' r S' => C.nx σ' s' ρ' E' S' r
theorem tp_name {i : Nat} {R : En → Prop} (h : R ⟨E.sl.set i (some x), E.ow⟩) : TgP K B (gName i) x E R := fun σ s ρ v S o Q q => q _ s ρ _ h (S.set o i)
/-- a[i] = v -/
theorem tp_sub {R : En → Prop} (h : EvP K B to E fun o E1 => EvP K B ta E1 fun k E2 => ∃ (n : Nat) (xs : List OE) (i : Int) (j : Nat), o = .r n ∧ k = .z (.int i) ∧ E2.ow[n]? = some (.lst xs) ∧ ixN xs.length i = some j ∧ R ⟨E2.sl, E2.ow.set n (.lst (xs.set j x))⟩) :
    TgP K B (gSub to ta rSetL) x E R := fun σ s ρ v S o Q q =>
  h σ s ρ S _ fun vo s1 ρ1 xo E1 h1 T1 S1 o1 => h1 σ s1 ρ1 S1 _ fun vi s2 ρ2 xi E2 ⟨n, xs, i, j, e1, e2, hw, hj, k⟩ T2 S2 o2 => by
    subst e1; subst e2
    obtain ⟨a, ha, rfl⟩ := oe_up T2.g T2.r o1
    obtain ⟨g1, vs, hv, hp⟩ := S2.own.rep n a _ ha hw (fun q => nomatch q)
    refine ⟨a, vs, i, j, rfl, dp_int o2, hv, by rw [← paired_len hp]; exact hj, ?_⟩
    have ov : OeR K s2.G ρ2 x v := oe_up (kept_trans T1.g T2.g) (T1.trans T2).r o
    have set : ∀ {xs : List OE} {vs : List V} (j : Nat), OesR K s2.G ρ2 xs vs → OesR K s2.G ρ2 (xs.set j x) (vs.set j v) := by
      intro xs vs j hp
      induction hp generalizing j with
      | nil => exact .nil
      | cons r t ih =>
        cases j with
        | zero => exact .cons ov t
        | succ j => exact .cons r (ih j)
    exact q σ (s2.newO a (.lst (vs.set j v)) g1) ρ2 _ k (S2.put ha hw (fun q => nomatch q) (d' := .lst (xs.set j x)) ⟨_, rfl, set j hp⟩)
/-- a, b, .. = a tuple -/
def TgsP (K : PySem.W.Frag) (B : Bs) (g : TGs) (ys : List OE) (E : En) (R : En → Prop) : Prop := ∀ σ s ρ vs, Sat K B σ s ρ E → OesR K s.G ρ ys vs → ∀ Q : L2.St → Hp → Prop,
  (∀ σ' s' ρ' E', R E' → Step s ρ s' ρ' → Sat K B σ' s' ρ' E' → Q σ' s'.H) → g vs σ s.H Q
theorem tgs_nil {R : En → Prop} (h : R E) : TgsP K B gNil [] E R := fun σ s ρ vs S o Q q => by
  cases o
  exact ⟨rfl, q σ s ρ E h (.refl _ _) S⟩
theorem tgs_name {i : Nat} {g : TGs} {R : En → Prop} (h : TgsP K B g ys ⟨E.sl.set i (some y), E.ow⟩ R) : TgsP K B (gCons (gName i) g) (y :: ys) E R := fun σ s ρ vs S o Q q => by
  cases o with
  | cons o os => exact ⟨_, _, rfl, h _ s ρ _ (S.set o i) os Q q⟩
theorem tp_tup {n : Nat} {g : TGs} {ds : List PyData} {R : En → Prop} (hn : ds.length = n) (h : TgsP K B g (ds.map .z) E R) : TgP K B (gTup K n g) (.z (.tuple ds)) E R := fun σ s ρ v S o Q q => by
  obtain ⟨a, vs, rfl, hl, hp⟩ := tq_dp o
  exact ⟨a, vs, rfl, hl, by rw [← paired_len hp, List.length_map, hn], h σ s ρ vs S hp Q fun σ' s' ρ' E' r T S' => q σ' s' ρ' E' r S'⟩
theorem w_whileP (P : Nat → En → Prop) (m0 : Nat) (h0 : P m0 E)
    (hs : ∀ m E, P m E → EvTP K B t E fun b E1 => (b = true → W K B ts E1 { nx := fun E' => ∃ m', m' < m ∧ P m' E', ct := fun E' => ∃ m', m' < m ∧ P m' E', bk := D.nx, rt := D.rt }) ∧ (b = false → D.nx E1)) : W K B (tWhile t ts) E D := fun σ s ρ D0 S C => by
  refine ⟨fun m σ H => ∃ s ρ E, s.H = H ∧ Sat K B σ s ρ E ∧ P m E, ⟨m0, s, ρ, E, rfl, S, h0⟩, ?_⟩
  rintro m σ H ⟨s, ρ, E, rfl, S, p⟩
  refine hs m E p σ s ρ S _ fun b s1 ρ1 E1 k T1 S1 => ?_
  cases b with
  | true =>
    refine iteT ⟨fun σ' H' => ∃ m', m' < m ∧ ∃ s ρ E, s.H = H' ∧ Sat K B σ' s ρ E ∧ P m' E, fun σ' H' ⟨m', l, z⟩ => ⟨m', l, z⟩, ?_⟩
    exact k.1 rfl σ s1 ρ1 _ S1 ⟨fun σ' s' ρ' E' S' ⟨m', l, p'⟩ => ⟨m', l, s', ρ', E', rfl, S', p'⟩, C.rt, C.nx, fun σ' s' ρ' E' S' ⟨m', l, p'⟩ => ⟨m', l, s', ρ', E', rfl, S', p'⟩⟩
  | false => exact iteF (C.nx σ s1 ρ1 E1 S1 (k.2 rfl))
theorem w_augP {i : Nat} {ip : TIp} (hx0 : E.sl[i]? = some (some x)) (h : EvP K B te E fun y E1 => ∃ d1 d2 d, RdO E1 x d1 ∧ RdO E1 y d2 ∧ Sc2 K ip d1 d2 d ∧ D.nx ⟨E1.sl.set i (some (.z d)), E1.ow⟩) : W K B (tAug i te ip) E D := fun σ s ρ D0 S C => by
  obtain ⟨v, e1, e2⟩ := S.sl i x hx0
  refine ⟨v, e1, h σ s ρ S _ fun w s1 ρ1 y E1 ⟨d1, d2, d, h1, h2, hr, k⟩ T1 S1 o1 => ?_⟩
  exact hr s1.H v w (rd_dp S1 h1 (oe_up T1.g T1.r e2)) (rd_dp S1 h2 o1) _ fun v' e => C.nx _ s1 ρ1 _ (S1.set (x := .z d) (e s1.G) i) k

/-! ### calls -/
/-- F, asked with these, leads to Post (the callee's numbers turned into the caller's by ids) -/
theorem p_call {F : DSp} {E0 : XK} {n : Nat} (h : EvAP K B ar E fun xs E1 => ∃ (ids : List Nat) (xsC : List OE) (owC : List OD) (Ψ : Value → Xf → List OD → Prop), xsC.length = n ∧ xs = xsC.map (OE.ren (reix ids E1.ow.length)) ∧ ids.Nodup ∧
      (ids.map (fun i => E1.ow[i]?) = owC.map fun o => some (o.ren (reix ids E1.ow.length))) ∧
      (∀ (Φ : OE → List OD → Prop) (Ψ' : Value → Xf → List OD → Prop), (∀ xC owC', ids.length ≤ owC'.length → P (xC.ren (reix ids E1.ow.length)) ⟨E1.sl, over E1.ow ids (owC'.map (OD.ren (reix ids E1.ow.length)))⟩ → Φ xC owC') → (∀ cls fs ow', Ψ cls fs ow' → Ψ' cls fs ow') → F xsC owC Φ Ψ') ∧
      (∀ cls fs ow', Ψ cls fs ow' → ids.length ≤ ow'.length ∧ ∀ σ s ρ dO, Sat K B σ s ρ ⟨E1.sl, over E1.ow ids (ow'.map (OD.ren (reix ids E1.ow.length)))⟩ → XR K s fs dO → E0 cls dO s.H)) :
    EvP K B (tCall (spD K n F) [] E0 ar) E P := fun σ s ρ S Q q =>
  h σ s ρ S _ fun vs s1 ρ1 xs E1 ⟨ids, xsC, owC, Ψ, hlen, hx, hn, ho, hF, hX⟩ T1 S1 o1 => by
    obtain ⟨hlt, OC⟩ := S1.lend hn ho
    subst hx
    show spD K n F (vs ++ []) s1.H Q E0
    rw [List.append_nil]
    refine ⟨by rw [← paired_len o1, List.length_map, hlen], s1, pickA ρ1 ids, xsC, owC, rfl, OC, ?_, hF _ _ ?_ ?_⟩
    · rw [← S1.own.len] at o1
      exact paired_up (paired_map_l o1) fun _ _ z => ren_in (s := s1) hlt z
    · intro xC owC' hl p v s' ρ' F' O' o'
      obtain ⟨t, e, S', T'⟩ := S1.back hn ho hl F' O'
      subst e
      refine q v s' (ρ1 ++ t) _ _ p (T1.trans T') S' ?_
      have := ren_out (s := s') hlt o'
      rw [S1.own.len] at this; exact this
    · intro cls fs ow' ψ dO s' ρ' F' O' xr
      obtain ⟨l', k⟩ := hX cls fs ow' ψ
      obtain ⟨t, e, S', T'⟩ := S1.back hn ho l' F' O'
      exact k σ s' (ρ1 ++ t) dO S' xr
theorem ren_z (f : Nat → Nat) (ds : List PyData) : (ds.map OE.z).map (OE.ren f) = ds.map OE.z := by rw [List.map_map]; rfl
/-- frozen arguments alone; the answer frozen -/
theorem p_call0 {F : DSp} {E0 : XK} {n : Nat} (h : EvAP K B ar E fun xs E1 => ∃ ds : List PyData, xs = ds.map .z ∧ ds.length = n ∧ ∀ (Φ : OE → List OD → Prop) (Ψ : Value → Xf → List OD → Prop), (∀ d, P (.z d) E1 → Φ (.z d) []) → F (ds.map .z) [] Φ Ψ) :
    EvP K B (tCall (spD K n F) [] E0 ar) E P := p_call fun σ s ρ S Q q => h σ s ρ S Q fun vs s1 ρ1 xs E1 ⟨ds, e, hn, hF⟩ T1 S1 o1 =>
  q vs s1 ρ1 xs E1 ⟨[], ds.map .z, [], fun _ _ _ => False, by simpa using hn, by rw [ren_z]; exact e, .nil, rfl, fun Φ Ψ k _ => hF Φ Ψ fun d p => k _ _ (Nat.le_refl _) (by simpa [over, OE.ren] using p), fun _ _ _ z => z.elim⟩ T1 S1 o1
/-- the first argument an owned list of frozen things, which the callee may change; the answer frozen -/
theorem p_call1 {F : DSp} {E0 : XK} {n : Nat} (h : EvAP K B ar E fun xs E1 => ∃ (i : Nat) (is ds : List PyData), xs = .r i :: ds.map .z ∧ ds.length + 1 = n ∧ E1.ow[i]? = some (.lst (is.map .z)) ∧
      ∀ (Φ : OE → List OD → Prop) (Ψ : Value → Xf → List OD → Prop), (∀ d (is' : List PyData), P (.z d) ⟨E1.sl, E1.ow.set i (.lst (is'.map .z))⟩ → Φ (.z d) [.lst (is'.map .z)]) → F (.r 0 :: ds.map .z) [.lst (is.map .z)] Φ Ψ) :
    EvP K B (tCall (spD K n F) [] E0 ar) E P := p_call fun σ s ρ S Q q => h σ s ρ S Q fun vs s1 ρ1 xs E1 ⟨i, is, ds, e, hn, hw, hF⟩ T1 S1 o1 =>
  q vs s1 ρ1 xs E1 ⟨[i], .r 0 :: ds.map .z, [.lst (is.map .z)], fun _ _ _ => False, by simpa using hn, by rw [List.map_cons, ren_z]; exact e, by simp, by
      show [E1.ow[i]?] = [some (OD.lst ((is.map OE.z).map (OE.ren _)))]
      rw [ren_z, hw], fun Φ Ψ k _ => hF Φ Ψ fun d is' p => k _ _ (Nat.le_refl _) (by
      show P (.z d) ⟨E1.sl, over E1.ow [i] [OD.lst ((is'.map OE.z).map (OE.ren _))]⟩
      rw [ren_z]
      simpa [over] using p), fun _ _ _ z => z.elim⟩ T1 S1 o1

/-! ### lists by their methods -/
theorem ty_lst {σ : L2.St} {s : Gh} {ρ : List Addr} {n : Nat} {v : V} {xs : List OE} (S : Sat K B σ s ρ E) (h : E.ow[n]? = some (.lst xs)) (o : OeR K s.G ρ (.r n) v) : ∃ a vs, v = .ref a ∧ ρ[n]? = some a ∧ s.G a = none ∧ s.H a = some (.lst vs) ∧ OesR K s.G ρ xs vs := by
  obtain ⟨a, ha, rfl⟩ := o
  obtain ⟨g, vs, h1, h2⟩ := S.own.rep n a _ ha h (fun q => nomatch q)
  exact ⟨a, vs, rfl, ha, g, h1, h2⟩
theorem p_append (h : EvP K B to E fun x E1 => ∃ n xs0, x = .r n ∧ E1.ow[n]? = some (.lst xs0) ∧ EvP K B te E1 fun y E2 => ∃ xs, E2.ow[n]? = some (.lst xs) ∧ xs.length < 100000 ∧ P (.z .none) ⟨E2.sl, E2.ow.set n (.lst (xs ++ [y]))⟩) :
    EvP K B (tBM K "list" rAppend to (tCons te tNil)) E P := fun σ s ρ S Q q =>
  h σ s ρ S _ fun v s1 ρ1 x E1 ⟨n, xs0, e, hw0, h1⟩ T1 S1 o1 => by
    subst e
    obtain ⟨a, vs0, rfl, ha, g0, hv0, hp0⟩ := ty_lst S1 hw0 o1
    refine ⟨.inl ⟨rfl, _, .inl (.inl hv0)⟩, ?_⟩
    refine h1 σ s1 ρ1 S1 _ fun w s2 ρ2 y E2 ⟨xs, hw, hl, k⟩ T2 S2 o2 => ?_
    obtain ⟨a', vs, e, ha', g', hv, hp⟩ := ty_lst S2 hw (oe_up T2.g T2.r o1)
    cases e
    refine ⟨a, vs, w, rfl, rfl, hv, by rw [← paired_len hp]; exact Nat.lt_of_lt_of_le hl (by decide), ?_⟩
    exact q _ (s2.newO a (.lst (vs ++ [w])) g') ρ2 _ _ k ((T1.trans T2).trans ⟨fun _ _ z => z, [], by simp⟩) (S2.put ha' hw (fun q => nomatch q) (d' := .lst (xs ++ [y])) ⟨_, rfl, paired_append hp (.cons o2 .nil)⟩) (show Dp K _ _ _ from .non)
theorem paired_take {α β : Type} {F : α → β → Prop} : ∀ {xs : List α} {ys : List β} (n : Nat), Paired F xs ys → Paired F (xs.take n) (ys.take n)
  | _, _, 0, _ => .nil
  | _, _, _ + 1, .nil => .nil
  | _, _, n + 1, .cons r t => .cons r (paired_take n t)
theorem paired_drop {α β : Type} {F : α → β → Prop} : ∀ {xs : List α} {ys : List β} (n : Nat), Paired F xs ys → Paired F (xs.drop n) (ys.drop n)
  | _, _, 0, r => r
  | _, _, _ + 1, .nil => .nil
  | _, _, n + 1, .cons _ t => paired_drop n t
theorem paired_rev {α β : Type} {F : α → β → Prop} : ∀ {xs : List α} {ys : List β}, Paired F xs ys → Paired F xs.reverse ys.reverse
  | _, _, .nil => .nil
  | _, _, .cons r t => by
    rw [List.reverse_cons, List.reverse_cons]
    exact paired_append (paired_rev t) (.cons r .nil)
theorem paired_erase {α β : Type} {F : α → β → Prop} : ∀ {xs : List α} {ys : List β} (n : Nat), Paired F xs ys → Paired F (xs.eraseIdx n) (ys.eraseIdx n)
  | _, _, _, .nil => .nil
  | _, _, 0, .cons _ t => t
  | _, _, n + 1, .cons r t => .cons r (paired_erase n t)
theorem p_pop (h : EvP K B to E fun x E1 => ∃ n xs y, x = .r n ∧ E1.ow[n]? = some (.lst (xs ++ [y])) ∧ P y ⟨E1.sl, E1.ow.set n (.lst xs)⟩) : EvP K B (tBM0 K "list" rPop to) E P := fun σ s ρ S Q q =>
  h σ s ρ S _ fun v s1 ρ1 x E1 ⟨n, xs, y, e, hw, k⟩ T1 S1 o1 => by
    subst e
    obtain ⟨a, vs, rfl, ha, g0, hv, hp⟩ := ty_lst S1 hw o1
    refine ⟨.inl ⟨rfl, _, .inl (.inl hv)⟩, ?_⟩
    have hl := paired_len hp
    obtain ⟨w, hw', ow⟩ := paired_get' hp (i := xs.length) (x := y) (by simp)
    have hd := paired_take xs.length hp
    rw [List.take_left' rfl] at hd
    refine ⟨a, vs, w, rfl, rfl, hv, by rw [← hl]; simpa using hw', ?_⟩
    have ed : vs.dropLast = vs.take xs.length := by rw [List.dropLast_eq_take, ← hl]; simp
    rw [ed]
    exact q _ (s1.newO a (.lst (vs.take xs.length)) g0) ρ1 _ _ k (T1.trans ⟨fun _ _ z => z, [], by simp⟩) (S1.put ha hw (fun q => nomatch q) (d' := .lst xs) ⟨_, rfl, hd⟩) ow
theorem p_popAt (h : EvP K B to E fun x E1 => ∃ n xs0, x = .r n ∧ E1.ow[n]? = some (.lst xs0) ∧ EvP K B te E1 fun k E2 => ∃ (xs : List OE) (j : Nat) (y : OE), k = .z (.int j) ∧ E2.ow[n]? = some (.lst xs) ∧ xs[j]? = some y ∧ xs.length ≤ 1000000 ∧ P y ⟨E2.sl, E2.ow.set n (.lst (xs.eraseIdx j))⟩) :
    EvP K B (tBM K "list" rPopAt to (tCons te tNil)) E P := fun σ s ρ S Q q =>
  h σ s ρ S _ fun v s1 ρ1 x E1 ⟨n, xs0, e, hw0, h1⟩ T1 S1 o1 => by
    subst e
    obtain ⟨a, vs0, rfl, ha, g0, hv0, hp0⟩ := ty_lst S1 hw0 o1
    refine ⟨.inl ⟨rfl, _, .inl (.inl hv0)⟩, ?_⟩
    refine h1 σ s1 ρ1 S1 _ fun w s2 ρ2 k E2 ⟨xs, j, y, ek, hw, hj, hb, kk⟩ T2 S2 o2 => ?_
    subst ek
    obtain ⟨a', vs, e, ha', g', hv, hp⟩ := ty_lst S2 hw (oe_up T2.g T2.r o1)
    cases e
    have hjl := (List.getElem?_eq_some_iff.mp hj).1
    have hl := paired_len hp
    obtain ⟨w', hw', ow⟩ := paired_get' hp hj
    have hix : ixN vs.length (j : Int) = some j := by unfold ixN; rw [if_pos (by omega), if_pos (by omega)]; simp
    refine ⟨a, vs, (j : Int), j, w', rfl, by rw [dp_int o2], hv, by omega, by omega, (ixN_seq hix).1, hw', ?_⟩
    exact q _ (s2.newO a (.lst (vs.eraseIdx j)) g') ρ2 _ _ kk ((T1.trans T2).trans ⟨fun _ _ z => z, [], by simp⟩) (S2.put ha' hw (fun q => nomatch q) (d' := .lst (xs.eraseIdx j)) ⟨_, rfl, paired_erase j hp⟩) ow
theorem p_reverse (h : EvP K B to E fun x E1 => ∃ n xs, x = .r n ∧ E1.ow[n]? = some (.lst xs) ∧ P (.z .none) ⟨E1.sl, E1.ow.set n (.lst xs.reverse)⟩) : EvP K B (tBM0 K "list" rReverse to) E P := fun σ s ρ S Q q =>
  h σ s ρ S _ fun v s1 ρ1 x E1 ⟨n, xs, e, hw, k⟩ T1 S1 o1 => by
    subst e
    obtain ⟨a, vs, rfl, ha, g0, hv, hp⟩ := ty_lst S1 hw o1
    refine ⟨.inl ⟨rfl, _, .inl (.inl hv)⟩, a, vs, rfl, rfl, hv, ?_⟩
    exact q _ (s1.newO a (.lst vs.reverse) g0) ρ1 _ _ k (T1.trans ⟨fun _ _ z => z, [], by simp⟩) (S1.put ha hw (fun q => nomatch q) (d' := .lst xs.reverse) ⟨_, rfl, paired_rev hp⟩) (show Dp K _ _ _ from .non)
abbrev rInsert : V → List V → Hp → VK → Prop := fun x vs H Q => ∃ (l : Addr) (xs : List V) (i : Int) (y : V), x = V.ref l ∧ vs = [.int i, y] ∧ H l = some (.lst xs) ∧ xs.length < sizeLine ∧ 0 ≤ i ∧ i < 2 ^ 63 ∧
    Q .non (upd H l (.lst (xs.take i.toNat ++ [y] ++ xs.drop i.toNat)))
theorem p_insert (h : EvP K B to E fun x E1 => ∃ n xs0, x = .r n ∧ E1.ow[n]? = some (.lst xs0) ∧ EvP K B ta E1 fun k E2 => EvP K B te E2 fun y E3 => ∃ (xs : List OE) (j : Nat), k = .z (.int j) ∧ E3.ow[n]? = some (.lst xs) ∧ xs.length < 100000 ∧ j ≤ 1000000 ∧
      P (.z .none) ⟨E3.sl, E3.ow.set n (.lst (xs.take j ++ [y] ++ xs.drop j))⟩) : EvP K B (tBM K "list" rInsert to (tCons ta (tCons te tNil))) E P := fun σ s ρ S Q q =>
  h σ s ρ S _ fun v s1 ρ1 x E1 ⟨n, xs0, e, hw0, h1⟩ T1 S1 o1 => by
    subst e
    obtain ⟨a, vs0, rfl, ha, g0, hv0, hp0⟩ := ty_lst S1 hw0 o1
    refine ⟨.inl ⟨rfl, _, .inl (.inl hv0)⟩, ?_⟩
    refine h1 σ s1 ρ1 S1 _ fun w s2 ρ2 k E2 h2 T2 S2 o2 => ?_
    refine h2 σ s2 ρ2 S2 _ fun w3 s3 ρ3 y E3 ⟨xs, j, ek, hw, hl, hj, kk⟩ T3 S3 o3 => ?_
    subst ek
    obtain ⟨a', vs, e, ha', g', hv, hp⟩ := ty_lst S3 hw (oe_up T3.g T3.r (oe_up T2.g T2.r o1))
    cases e
    refine ⟨a, vs, (j : Int), w3, rfl, by rw [dp_int o2], hv, by rw [← paired_len hp]; exact Nat.lt_of_lt_of_le hl (by decide), by omega, by omega, ?_⟩
    rw [Int.toNat_natCast]
    exact q _ (s3.newO a (.lst (vs.take j ++ [w3] ++ vs.drop j)) g') ρ3 _ _ kk (((T1.trans T2).trans T3).trans ⟨fun _ _ z => z, [], by simp⟩)
      (S3.put ha' hw (fun q => nomatch q) (d' := .lst (xs.take j ++ [y] ++ xs.drop j)) ⟨_, rfl, paired_append (paired_append (paired_take j hp) (.cons o3 .nil)) (paired_drop j hp)⟩) (show Dp K _ _ _ from .non)

/-! ### parts -/
def cutL {α : Type} (xs : List α) (lo hi : Option Int) : List α := (xs.drop (HT.sIx xs.length 0 lo)).take (HT.sIx xs.length xs.length hi - HT.sIx xs.length 0 lo)
def EvO (K : PySem.W.Frag) (B : Bs) (to : TO) (E : En) (P : Option Int → En → Prop) : Prop := ∀ σ s ρ, Sat K B σ s ρ E → ∀ Q : Option Int → Hp → Prop, (∀ o s' ρ' E', P o E' → Step s ρ s' ρ' → Sat K B σ s' ρ' E' → Q o s'.H) → to σ s.H Q
theorem o_none {PO : Option Int → En → Prop} (k : PO none E) : EvO K B tNoPart E PO := fun σ s ρ S Q q => q none s ρ E k (.refl _ _) S
theorem o_some {PO : Option Int → En → Prop} (h : EvP K B te E fun x E1 => ∃ i : Int, x = .z (.int i) ∧ PO (some i) E1) : EvO K B (tPart te) E PO := fun σ s ρ S Q q =>
  h σ s ρ S _ fun v s1 ρ1 x E1 ⟨i, e, k⟩ T1 S1 o1 => by subst e; exact ⟨i, dp_int o1, q (some i) s1 ρ1 E1 k T1 S1⟩
def rSlU (K : PySem.W.Frag) : V → Option Int → Option Int → Hp → VK → Prop := fun x lo hi H Q => rSlL K x lo hi H Q ∨ (rSlS x lo hi H Q ∨ rSlA K x lo hi H Q)
theorem sl_U {X : Cx} : SlR X (rSlU X.K) := sl_list.or (sl_str.or sl_tupA)
theorem n_slice {lo hi : TO} (h : EvP K B te E fun x E1 => EvO K B lo E1 fun l E2 => EvO K B hi E2 fun u E3 => ∃ xs, SqO E3 x xs ∧ PA' (cutL xs l u) E3) : EvNP K B (tSl (rSlU K) te lo hi) E PA' := fun σ s ρ S Q q =>
  h σ s ρ S _ fun v s1 ρ1 x E1 h1 T1 S1 o1 => h1 σ s1 ρ1 S1 _ fun l s2 ρ2 E2 h2 T2 S2 => h2 σ s2 ρ2 S2 _ fun u s3 ρ3 E3 ⟨xs, hx, k⟩ T3 S3 => by
    obtain ⟨a, vs, rfl, hs, hp⟩ := sq_dp S3 hx (oe_up T3.g T3.r (oe_up T2.g T2.r o1))
    refine Or.inl ⟨a, vs, rfl, hs, fun p hn => ?_⟩
    have e : cutV vs l u = (vs.drop (HT.sIx xs.length 0 l)).take (HT.sIx xs.length xs.length u - HT.sIx xs.length 0 l) := by unfold cutV; rw [← paired_len hp]
    rw [e]
    exact q _ s3 ρ3 _ E3 k ((T1.trans T2).trans T3) S3 (paired_take _ (paired_drop _ hp)) p hn
theorem p_sliceS {lo hi : TO} (h : EvP K B te E fun x E1 => EvO K B lo E1 fun l E2 => EvO K B hi E2 fun u E3 => ∃ w : Str, x = .z (.str w) ∧ w.length ≤ 100000 ∧ P (.z (.str (cutS w l u))) E3) : EvP K B (tSl (rSlU K) te lo hi) E P := fun σ s ρ S Q q =>
  h σ s ρ S _ fun v s1 ρ1 x E1 h1 T1 S1 o1 => h1 σ s1 ρ1 S1 _ fun l s2 ρ2 E2 h2 T2 S2 => h2 σ s2 ρ2 S2 _ fun u s3 ρ3 E3 ⟨w, hx, hl, k⟩ T3 S3 => by
    subst hx
    exact Or.inr (Or.inl ⟨w, dp_str o1, Nat.le_trans hl (by decide), q _ s3 ρ3 _ E3 k ((T1.trans T2).trans T3) S3 (ever_str _ _)⟩)
theorem cutL_whole {α : Type} {xs : List α} {l u : Option Int} (h : HT.sIx xs.length 0 l = 0 ∧ HT.sIx xs.length xs.length u = xs.length) : cutL xs l u = xs := by
  unfold cutL
  rw [h.1, h.2, List.drop_zero, Nat.sub_zero, List.take_length]
/-- part of a tuple -/
theorem p_sliceT {lo hi : TO} (h : EvP K B te E fun x E1 => EvO K B lo E1 fun l E2 => EvO K B hi E2 fun u E3 => ∃ ds : List PyData, x = .z (.tuple ds) ∧ P (.z (.tuple (cutL ds l u))) E3) : EvP K B (tSl (rSlU K) te lo hi) E P := fun σ s ρ S Q q =>
  h σ s ρ S _ fun v s1 ρ1 x E1 h1 T1 S1 o1 => h1 σ s1 ρ1 S1 _ fun l s2 ρ2 E2 h2 T2 S2 => h2 σ s2 ρ2 S2 _ fun u s3 ρ3 E3 ⟨ds, hx, k⟩ T3 S3 => by
    subst hx
    have o3 := oe_up T3.g T3.r (oe_up T2.g T2.r o1)
    obtain ⟨a, vs, rfl, hs, hp⟩ := tq_dp o3
    have hl : ds.length = vs.length := by rw [← paired_len hp, List.length_map]
    refine Or.inr (Or.inr ⟨a, vs, rfl, hs, fun hw => ?_, fun hw p hn => ?_⟩)
    · rw [← hl] at hw
      rw [cutL_whole hw] at k
      exact q _ s3 ρ3 _ E3 k ((T1.trans T2).trans T3) S3 o3
    · have e : cutV vs l u = (vs.drop (HT.sIx ds.length 0 l)).take (HT.sIx ds.length ds.length u - HT.sIx ds.length 0 l) := by unfold cutV; rw [← hl]
      rw [e]
      have hg := (S3.fresh hn).1
      refine q (.ref p) (s3.newZ p _) ρ3 _ E3 k (((T1.trans T2).trans T3).trans (stepZ _ _ _ hg)) (S3.newZ hn _) ?_
      refine .tup (SqT.of (show upd s3.G p _ p = _ from upd_same)) (dps_up (kept_new hg) _ _ (dps_of (ρ := ρ3) ?_))
      have := paired_take (HT.sIx ds.length ds.length u - HT.sIx ds.length 0 l) (paired_drop (HT.sIx ds.length 0 l) hp)
      unfold cutL
      rw [List.map_take, List.map_drop]
      exact this
end
end Y

/-! Y9: walks, for, comprehensions; freezing -/
namespace Y
open PySem L2 PyProof.Rows
section
variable {K : PySem.W.Frag} {B : Bs} {E E1 E2 E3 : En} {ta tb tc te to : TE} {t u tt : TT} {t1 t2 ts : TS} {x y z : OE} {d d1 d2 : PyData} {r r' : R2} {xs ys : List OE} {ar : TA} {b c : Bool} {i j : Int} {D : Dn} {P P' : OE → En → Prop} {PA' : List OE → En → Prop} {PT : Bool → En → Prop} {σ : L2.St} {s s' : Gh} {ρ ρ' : List Addr}
/-- what is told of a walk: the state behind its making, its turns, what they give, what must stay -/
abbrev WkOb := En → Nat → (Nat → OE) → (En → Prop) → Prop
def IterP (K : PySem.W.Frag) (B : Bs) (wi : TI) (E : En) (Ob : WkOb) : Prop := ∀ σ s ρ, Sat K B σ s ρ E → ∀ R : It → Hp → Prop,
  (∀ J s' ρ' E1 n ys keep, Ob E1 n ys keep → Step s ρ s' ρ' → Sat K B σ s' ρ' E1 → (∀ P : Nat → En → Prop, (∀ k E', P k E' → keep E') → Good K J s' ρ' n ys P) → R J s'.H) → wi σ s.H R
/-- a for's obligation -/
def ForOb (K : PySem.W.Frag) (B : Bs) (g : TG) (ts : TS) (D : Dn) : WkOb := fun E1 n ys keep => ∃ (T : Nat → En → En) (P : Nat → En → Prop), P 0 E1 ∧ (∀ k E', P k E' → keep E') ∧ (∀ k E', k < n → P k E' → ∀ B', Tg K B' g (ys k) E' (T k E')) ∧
  (∀ B' : Bs, B'.io.length = E1.ow.length → ∀ k E', k < n → P k E' → W K B' ts (T k E') { nx := P (k + 1), ct := P (k + 1), bk := D.nx, rt := D.rt }) ∧ (∀ E', P n E' → D.nx E')
theorem for_run {J : It} {g : TG} {s1 : Gh} {ρ1 : List Addr} {n : Nat} {ys : Nat → OE} {keep : En → Prop} {D0 : Ends} (S1 : Sat K B σ s1 ρ1 E1) (G : ∀ P : Nat → En → Prop, (∀ k E', P k E' → keep E') → Good K J s1 ρ1 n ys P) (C : Conn K B D D0) (h : ForOb K B g ts D E1 n ys keep) :
    ∃ W : Nat → Nat → L2.St → Hp → Prop, (∃ m, W 0 m σ s1.H) ∧ ∀ i m σ H, W i m σ H →
      (J.stop i H ∧ D0.nx σ H) ∨ (J.go i H ∧ ∃ N : L2.St → Hp → Prop, (∀ σ' H', N σ' H' → ∃ m', m' < m ∧ W (i + 1) m' σ' H') ∧ ∀ x H', J.yld i H x H' → g x σ H' fun σ2 H2 => ts { D0 with nx := N, ct := N, bk := D0.nx } σ2 H2) := by
  obtain ⟨T, P, h0, hk, hT, hs, hd⟩ := h
  have G := G P hk
  refine ⟨fun i m σ H => m = n - i ∧ i ≤ n ∧ ∃ s ρ E', s.H = H ∧ Sat K ⟨s1.G, s1.H, ρ1⟩ σ s ρ E' ∧ P i E', ⟨n, by simp, Nat.zero_le _, s1, ρ1, E1, rfl, S1.rebase, h0⟩, ?_⟩
  have back : ∀ {σ' s' ρ' E'}, Sat K ⟨s1.G, s1.H, ρ1⟩ σ' s' ρ' E' → Sat K B σ' s' ρ' E' := fun S' => ⟨S'.own, S1.fr.trans S'.fr, S'.len, S'.sl⟩
  rintro i m σ H ⟨rfl, hi, s, ρ, E', rfl, S', p⟩
  obtain ⟨g1, g2⟩ := G i σ s ρ E' S' p
  by_cases hlt : i < n
  · refine .inr ⟨(g1 hlt).1, fun σ H => ∃ s ρ E', s.H = H ∧ Sat K ⟨s1.G, s1.H, ρ1⟩ σ s ρ E' ∧ P (i + 1) E', fun σ' H' z => ⟨n - (i + 1), by omega, rfl, hlt, z⟩, fun v H' y => ?_⟩
    obtain ⟨s2, rfl, S2, o2⟩ := (g1 hlt).2 v H' y
    refine hT i E' hlt p _ σ s2 ρ v (S2 _ _ _ S') o2 _ fun σ3 s3 ρ3 S3 => ?_
    exact hs ⟨s1.G, s1.H, ρ1⟩ S1.own.len i E' hlt p σ3 s3 ρ3 _ S3 ⟨fun σ4 s4 ρ4 E4 S4 p4 => ⟨s4, ρ4, E4, rfl, S4, p4⟩, fun v σ4 s4 ρ4 E4 x S4 o4 p4 => C.rt v σ4 s4 ρ4 E4 x (back S4) o4 p4,
      fun σ4 s4 ρ4 E4 S4 p4 => C.nx σ4 s4 ρ4 E4 (back S4) p4, fun σ4 s4 ρ4 E4 S4 p4 => ⟨s4, ρ4, E4, rfl, S4, p4⟩⟩
  · have e : i = n := by omega
    subst e
    exact .inl ⟨g2 (Nat.le_refl _), C.nx σ s ρ E' (back S') (hd E' p)⟩
theorem w_forP {wi : TI} {g : TG} (h : IterP K B wi E (ForOb K B g ts D)) : W K B (tFor wi g ts) E D := fun σ s ρ D0 S C =>
  h σ s ρ S _ fun J s1 ρ1 E1 n ys keep ob T1 S1 G => for_run S1 G C ob
/-! ### walks -/
theorem i_list {Ob : WkOb} (h : EvP K B te E fun x E1 => ∃ xs, SqO E1 x xs ∧ Ob E1 xs.length (fun k => xs.getD k (.z .none)) (fun E' => SqO E' x xs)) : IterP K B (iList K te) E Ob := fun σ s ρ S R q =>
  h σ s ρ S _ fun v s1 ρ1 x E1 ⟨xs, hx0, ob⟩ T1 S1 o1 => by
    obtain ⟨a, vs, rfl, hl, hp⟩ := sq_dp S1 hx0 o1
    have hx : ∀ {k : Nat}, k < xs.length → xs[k]? = some (xs.getD k (.z .none)) := fun {k} hk => by
      rw [List.getElem?_eq_getElem hk, List.getD_eq_getElem?_getD, List.getElem?_eq_getElem hk]; rfl
    refine ⟨a, rfl, ⟨vs, hl⟩, q _ s1 ρ1 E1 _ _ _ ob T1 S1 fun P hk k σ' s' ρ' E' S' p => ?_⟩
    obtain ⟨a', vs', e, hl', hp'⟩ := sq_dp S' (hk k E' p) (oe_up S'.fr.g (S'.fr.io.imp fun t z => z.1) o1)
    cases e
    refine ⟨fun hk => ?_, fun hk => ⟨vs', hl', by rw [← paired_len hp']; exact hk⟩⟩
    obtain ⟨w, hw, ow⟩ := paired_get' hp' (hx hk)
    refine ⟨⟨vs', w, hl', hw⟩, fun v H' y => ?_⟩
    obtain ⟨rfl, y⟩ := y
    have hv := y vs' hl'
    rw [hw] at hv; cases hv
    exact ⟨s', rfl, fun _ _ _ z => z, ow⟩
theorem i_tup {Ob : WkOb} (h : EvP K B te E fun x E1 => ∃ ds : List PyData, x = .z (.tuple ds) ∧ Ob E1 ds.length (fun k => .z (ds.getD k .none)) (fun _ => True)) : IterP K B (iTup K te) E Ob := fun σ s ρ S R q =>
  h σ s ρ S _ fun v s1 ρ1 x E1 ⟨ds, e, ob⟩ T1 S1 o1 => by
    subst e
    obtain ⟨a, vs, rfl, hl, hp⟩ := tq_dp o1
    have hx : ∀ {k : Nat}, k < ds.length → ds[k]? = some (ds.getD k .none) := fun {k} hk => by
      rw [List.getElem?_eq_getElem hk, List.getD_eq_getElem?_getD, List.getElem?_eq_getElem hk]; rfl
    refine ⟨a, rfl, ⟨vs, hl⟩, q _ s1 ρ1 E1 _ _ _ ob T1 S1 fun P hk k σ' s' ρ' E' S' p => ?_⟩
    obtain ⟨a', vs', e, hl', hp'⟩ := tq_dp (oe_up S'.fr.g (S'.fr.io.imp fun t z => z.1) o1)
    cases e
    have hn := paired_len hp'
    rw [List.length_map] at hn
    refine ⟨fun hk => ?_, fun hk => ⟨vs', hl', by rw [← hn]; exact hk⟩⟩
    obtain ⟨w, hw, ow⟩ := paired_get' (i := k) hp' (by rw [List.getElem?_map, hx hk]; rfl)
    refine ⟨⟨vs', w, hl', hw⟩, fun v H' y => ?_⟩
    obtain ⟨rfl, y⟩ := y
    have hv := y vs' hl'
    rw [hw] at hv; cases hv
    exact ⟨s', rfl, fun _ _ _ z => z, ow⟩
theorem i_rng1 {Ob : WkOb} (h : EvAP K B ar E fun vs E1 => ∃ n : Int, vs = [.z (.int n)] ∧ (-1000000000 ≤ n ∧ n ≤ 1000000000) ∧ Ob E1 n.toNat (fun k => .z (.int k)) (fun _ => True)) : IterP K B (iRng1 ar) E Ob := fun σ s ρ S R q =>
  h σ s ρ S _ fun vs s1 ρ1 xs E1 ⟨n, e, hn, ob⟩ T1 S1 o1 => by
    subst e
    cases o1 with
    | cons o o' =>
      cases o'
      refine ⟨n, by rw [dp_int o], by omega, by omega, q _ s1 ρ1 E1 _ _ _ ob T1 S1 fun P _ k σ' s' ρ' E' S' p => ⟨fun hk => ⟨hk, fun v H' y => ?_⟩, fun hk => hk⟩⟩
      obtain ⟨rfl, rfl⟩ := y
      refine ⟨s', rfl, fun _ _ _ z => z, ?_⟩
      rw [Int.zero_add]
      exact ever_int _ _
theorem i_rng2 {Ob : WkOb} (h : EvAP K B ar E fun vs E1 => ∃ m n : Int, vs = [.z (.int m), .z (.int n)] ∧ ((-1000000000 ≤ m ∧ m ≤ 1000000000) ∧ -1000000000 ≤ n ∧ n ≤ 1000000000) ∧ Ob E1 (n - m).toNat (fun k => .z (.int (m + k))) (fun _ => True)) : IterP K B (iRng2 ar) E Ob := fun σ s ρ S R q =>
  h σ s ρ S _ fun vs s1 ρ1 xs E1 ⟨m, n, e, hn, ob⟩ T1 S1 o1 => by
    subst e
    cases o1 with
    | cons o o' =>
      cases o' with
      | cons o2 o' =>
        cases o'
        refine ⟨m, n, by rw [dp_int o, dp_int o2], ⟨by omega, by omega, by omega, by omega⟩, q _ s1 ρ1 E1 _ _ _ ob T1 S1 fun P _ k σ' s' ρ' E' S' p => ⟨fun hk => ⟨hk, fun v H' y => ?_⟩, fun hk => hk⟩⟩
        obtain ⟨rfl, rfl⟩ := y
        exact ⟨s', rfl, fun _ _ _ z => z, ever_int _ _⟩
theorem i_str {Ob : WkOb} (h : EvP K B te E fun x E1 => ∃ w : Str, x = .z (.str w) ∧ Ob E1 w.cps.size (fun k => .z (.str ⟨#[w.cps.getD k 0]⟩)) (fun _ => True)) : IterP K B (iStr te) E Ob := fun σ s ρ S R q =>
  h σ s ρ S _ fun v s1 ρ1 x E1 ⟨w, e, ob⟩ T1 S1 o1 => by
    subst e
    refine ⟨w, dp_str o1, q _ s1 ρ1 E1 _ _ _ ob T1 S1 fun P _ k σ' s' ρ' E' S' p => ⟨fun hk => ⟨hk, fun v H' y => ?_⟩, fun hk => hk⟩⟩
    obtain ⟨rfl, c, hc, rfl⟩ := y
    refine ⟨s', rfl, fun _ _ _ z => z, ?_⟩
    have : w.cps.getD k 0 = c := by rw [Array.getD_eq_getD_getElem?, hc]; rfl
    show Dp K _ _ _
    rw [this]; exact .str _
/-! ### comprehensions -/
def wipeE (l : List (Option OE)) : List Nat → List (Option OE)
  | [] => l
  | v :: vs => (wipeE l vs).set v none
theorem wipeE_len (l : List (Option OE)) : ∀ vs, (wipeE l vs).length = l.length
  | [] => rfl
  | v :: vs => by unfold wipeE; rw [List.length_set, wipeE_len l vs]
theorem wipeE_some {l : List (Option OE)} {i : Nat} {x : OE} : ∀ {vs : List Nat}, (wipeE l vs)[i]? = some (some x) → l[i]? = some (some x) ∧ i ∉ vs
  | [], h => ⟨h, by simp⟩
  | v :: vs, h => by
    unfold wipeE at h
    by_cases hi : v = i
    · subst hi
      by_cases hv : v < (wipeE l vs).length
      · rw [List.getElem?_set_self hv] at h; cases h
      · rw [List.getElem?_eq_none (by simpa using hv)] at h; cases h
    · rw [List.getElem?_set_ne hi] at h
      obtain ⟨h1, h2⟩ := wipeE_some h
      exact ⟨h1, by simp only [List.mem_cons, not_or]; exact ⟨fun e => hi e.symm, h2⟩⟩
theorem wipe_out {σ : L2.St} {i : Nat} : ∀ {vs : List Nat}, i ∉ vs → (wipe σ vs)[i]? = σ[i]?
  | [], _ => rfl
  | v :: vs, h => by
    unfold wipe
    rw [List.getElem?_set_ne (fun e => h (by simp [e])), wipe_out fun z => h (by simp [z])]
theorem Sat.wiped (S : Sat K B σ s ρ E) (vs : List Nat) : Sat K B (wipe σ vs) s ρ ⟨wipeE E.sl vs, E.ow⟩ :=
  ⟨S.own, S.fr, by rw [wipe_length, wipeE_len]; exact S.len, fun i x e => by
    obtain ⟨h1, h2⟩ := wipeE_some e
    obtain ⟨v, g1, g2⟩ := S.sl i x h1
    exact ⟨v, by rw [wipe_out h2]; exact g1, g2⟩⟩
/-- a comprehension's target: names of the comprehension alone -/
theorem wipe_set {σ : L2.St} {j : Nat} {v : Option V} : ∀ {vs : List Nat}, j ∈ vs → wipe (σ.set j v) vs = wipe σ vs
  | [], h => by cases h
  | w :: vs, h => by
    unfold wipe
    by_cases hj : j ∈ vs
    · rw [wipe_set hj]
    · have e : w = j := by
        rcases List.mem_cons.mp h with z | z
        · exact z.symm
        · exact absurd z hj
      subst e
      have sc : ∀ (vs : List Nat), w ∉ vs → wipe (σ.set w v) vs = (wipe σ vs).set w v := by
        intro vs
        induction vs with
        | nil => intro _; rfl
        | cons u vs ih =>
          intro hn
          unfold wipe
          rw [ih fun z => hn (by simp [z]), List.set_comm _ _ (fun e => hn (by simp [e]))]
      rw [sc vs hj, List.set_set]
theorem wipe_wipe {σ : L2.St} (vs : List Nat) : wipe (wipe σ vs) vs = wipe σ vs := by
  have go : ∀ (us : List Nat) (τ : L2.St), (∀ u ∈ us, u ∈ vs) → wipe (wipe τ us) vs = wipe τ vs := by
    intro us
    induction us with
    | nil => intro τ _; rfl
    | cons u us ih =>
      intro τ h
      show wipe ((wipe τ us).set u none) vs = _
      rw [wipe_set (h u (by simp)), ih τ fun w hw => h w (by simp [hw])]
  exact go vs σ fun _ h => h
/-- the target's storing -/
def TgC (K : PySem.W.Frag) (B : Bs) (g : TG) (vs : List Nat) (y : OE) (E E2 : En) : Prop := ∀ σ s ρ v, Sat K B σ s ρ E → OeR K s.G ρ y v → ∀ Q : L2.St → Hp → Prop,
  (∀ σ' s' ρ', wipe σ' vs = wipe σ vs → Sat K B σ' s' ρ' E2 → Q σ' s'.H) → g v σ s.H Q
theorem tc_name {j : Nat} {vs : List Nat} (hj : j ∈ vs) : TgC K B (gName j) vs x E ⟨E.sl.set j (some x), E.ow⟩ := fun σ s ρ v S o Q q => q _ s ρ (wipe_set hj) (S.set o j)
/-- a comprehension's obligation: the list so far is the owned object of number m; I tells the turn, the list, what is owned -/
def CompOb (K : PySem.W.Frag) (g : TG) (tt : TT) (te : TE) (vs : List Nat) (P : OE → En → Prop) : WkOb := fun E1 n ys keep => ∃ (T : Nat → En → En) (I : Nat → List OE → List OD → Prop),
  I 0 [] (E1.ow ++ [.lst []]) ∧ (∀ k acc ow, I k acc ow → ow[E1.ow.length]? = some (.lst acc) ∧ keep ⟨wipeE E1.sl vs, ow⟩) ∧
  (∀ k acc ow, k < n → I k acc ow → ∀ B', TgC K B' g vs (ys k) ⟨wipeE E1.sl vs, ow⟩ (T k ⟨wipeE E1.sl vs, ow⟩)) ∧
  (∀ B' : Bs, B'.io.length = E1.ow.length + 1 → ∀ k acc ow, k < n → I k acc ow → EvTP K B' tt (T k ⟨wipeE E1.sl vs, ow⟩) fun b E2 =>
    (b = true → EvP K B' te E2 fun y E3 => E3.ow[E1.ow.length]? = some (.lst acc) ∧ acc.length < 100000 ∧ I (k + 1) (acc ++ [y]) (E3.ow.set E1.ow.length (.lst (acc ++ [y])))) ∧ (b = false → I (k + 1) acc E2.ow)) ∧
  (∀ acc ow, I n acc ow → P (.r E1.ow.length) ⟨E1.sl, ow⟩)
theorem p_lc {wi : TI} {g : TG} {vs : List Nat} (h : IterP K B wi E (CompOb K g tt te vs P)) : EvP K B (tLc wi g tt te vs) E P := fun σ s ρ S Q q =>
  h σ s ρ S _ fun J s1 ρ1 E1 n ys keep ⟨T, I, h0, hI, hT, hs, hd⟩ T1 S1 G => by
    intro Dl hDl
    have hg := (S1.fresh hDl).1
    -- the state behind the making of the empty list
    have S2 := (S1.wiped vs).newO hDl (o := .lst []) (d := .lst []) ⟨[], rfl, .nil⟩
    have F2 : Fr ⟨s1.G, s1.H, ρ1⟩ (s1.newO Dl (.lst []) hg) (ρ1 ++ [Dl]) := by
      refine ⟨⟨[Dl], rfl, fun a ha => by simp at ha; subst ha; exact hDl⟩, fun a o n e => ?_, fun a e => ?_, fun _ _ z => z, fun _ _ => rfl⟩
      · show upd s1.H Dl _ a = some o
        rw [upd_ne (ne_of_none e hDl)]; exact e
      · show upd s1.H Dl _ a ≠ none
        by_cases q : a = Dl
        · subst q; rw [upd_same]; exact fun z => nomatch z
        · rw [upd_ne q]; exact e
    generalize hs2 : s1.newO Dl (.lst []) hg = s2 at S2 F2
    have eH : s2.H = upd s1.H Dl (.lst []) := by rw [← hs2]; rfl
    have hlen1 := S1.own.len
    -- back to the state ahead of the list
    have back1 : ∀ {σ' s' ρ' E'}, Sat K ⟨s2.G, s2.H, ρ1 ++ [Dl]⟩ σ' s' ρ' E' → Sat K ⟨s1.G, s1.H, ρ1⟩ σ' s' ρ' E' := fun S' => ⟨S'.own, F2.trans S'.fr, S'.len, S'.sl⟩
    let Wv : Nat → Hp → Prop := fun k H => ∃ s ρ acc ow, s.H = H ∧ Sat K ⟨s2.G, s2.H, ρ1 ++ [Dl]⟩ (wipe σ vs) s ρ ⟨wipeE E1.sl vs, ow⟩ ∧ I k acc ow
    have GG := G (fun k E' => ∃ acc ow, E' = ⟨wipeE E1.sl vs, ow⟩ ∧ I k acc ow) fun k E' ⟨acc, ow, e, i⟩ => by subst e; exact (hI k acc ow i).2
    refine ⟨fun i m H => m = n - i ∧ i ≤ n ∧ Wv i H, ⟨n, by simp, Nat.zero_le _, s2, ρ1 ++ [Dl], [], _, eH, S2.rebase, h0⟩, ?_⟩
    rintro i m H ⟨rfl, hi, s', ρ', acc, ow, rfl, S', p⟩
    obtain ⟨g1, g2⟩ := GG i _ s' ρ' _ (back1 S') ⟨acc, ow, rfl, p⟩
    obtain ⟨hm, _⟩ := hI i acc ow p
    by_cases hlt : i < n
    · refine .inr ⟨(g1 hlt).1, Wv (i + 1), fun H' z => ⟨n - (i + 1), by omega, rfl, hlt, z⟩, fun v H' y => ?_⟩
      obtain ⟨s3, rfl, S3', o3⟩ := (g1 hlt).2 v H' y
      have S3 := S3' _ _ _ S'
      refine hT i acc ow hlt p _ (wipe σ vs) s3 ρ' v S3 o3 _ fun σ4 s4 ρ4 hwp S4 => ⟨hwp.trans (wipe_wipe vs), ?_⟩
      have hq := hs ⟨s2.G, s2.H, ρ1 ++ [Dl]⟩ (by show (ρ1 ++ [Dl]).length = _; simp [hlen1]) i acc ow hlt p σ4 s4 ρ4 S4
      have fin : ∀ {σ5 s5 ρ5 sl ow5}, Sat K ⟨s2.G, s2.H, ρ1 ++ [Dl]⟩ σ5 s5 ρ5 ⟨sl, ow5⟩ → Sat K ⟨s2.G, s2.H, ρ1 ++ [Dl]⟩ (wipe σ vs) s5 ρ5 ⟨wipeE E1.sl vs, ow5⟩ := fun {σ5 s5 ρ5 sl ow5} S5 => by
        refine ⟨S5.own, S5.fr, (S1.wiped vs).len, fun k x e => ?_⟩
        obtain ⟨w, h1, h2⟩ := (S1.wiped vs).sl k x e
        obtain ⟨t, e', _⟩ := S5.fr.io
        have e2 : ρ5 = (ρ1 ++ [Dl]) ++ t := e'
        exact ⟨w, h1, oe_up (kept_trans F2.g S5.fr.g) ⟨[Dl] ++ t, by rw [e2, List.append_assoc]⟩ h2⟩
      refine hq _ fun b s5 ρ5 E5 hb T5 S5 => ?_
      cases b with
      | true =>
        refine iteT (hb.1 rfl σ4 s5 ρ5 S5 _ fun w s6 ρ6 y E6 ⟨hm6, hl6, i6⟩ T6 S6 o6 => ?_)
        obtain ⟨a, vs6, ea, ha, g6, hv6, hp6⟩ := ty_lst S6 hm6 (v := .ref Dl) ⟨Dl, by
          obtain ⟨t, e', _⟩ := S6.fr.io
          have e2 : ρ6 = (ρ1 ++ [Dl]) ++ t := e'
          rw [e2]
          exact ix_app (by rw [← hlen1]; simp), rfl⟩
        cases ea
        refine ⟨vs6, hv6, by rw [← paired_len hp6]; exact Nat.lt_of_lt_of_le hl6 (by decide), ?_⟩
        have S7 := S6.put ha hm6 (fun q => nomatch q) (o := .lst (vs6 ++ [w])) (d' := .lst (acc ++ [y])) ⟨_, rfl, paired_append hp6 (.cons o6 .nil)⟩
        exact ⟨_, ρ6, acc ++ [y], _, rfl, fin S7, i6⟩
      | false => exact iteF ⟨s5, ρ5, acc, E5.ow, rfl, fin (sl := E5.sl) S5, hb.2 rfl⟩
    · have e : i = n := by omega
      subst e
      refine .inl ⟨g2 (Nat.le_refl _), ?_⟩
      have hv : ∀ (k : Nat) a, (ρ1 ++ [Dl])[k]? = some a → ρ'[k]? = some a := fun k a hk => by
        obtain ⟨t, e, _⟩ := S'.fr.io
        have e' : ρ' = (ρ1 ++ [Dl]) ++ t := e
        rw [e']; exact ix_app hk
      refine q (.ref Dl) s' ρ' _ _ (hd acc ow p) ?_ ?_ ⟨Dl, hv _ _ (by rw [← hlen1]; simp), rfl⟩
      · obtain ⟨t, e, _⟩ := S'.fr.io
        have e' : ρ' = (ρ1 ++ [Dl]) ++ t := e
        exact T1.trans ⟨kept_trans F2.g S'.fr.g, [Dl] ++ t, by rw [e', List.append_assoc]⟩
      · refine ⟨S'.own, S1.fr.trans (F2.trans S'.fr), S1.len, fun k x e => ?_⟩
        obtain ⟨w, h1, h2⟩ := S1.sl k x e
        obtain ⟨t, e, _⟩ := S'.fr.io
        have e' : ρ' = (ρ1 ++ [Dl]) ++ t := e
        exact ⟨w, h1, oe_up (kept_trans F2.g S'.fr.g) ⟨[Dl] ++ t, by rw [e', List.append_assoc]⟩ h2⟩
end
end Y

/-! Y10: forms for steps by themselves; +, * of lists; list(..), tuple(..); freezing -/
namespace Y
open PySem L2 PyProof.Rows
/-- all of them frozen -/
def zs : List OE → Option (List PyData)
  | [] => some []
  | .z d :: r => match zs r with
    | some ds => some (d :: ds)
    | none => none
  | .r _ :: _ => none
  | .e _ :: _ => none
theorem zs_eq : ∀ {xs : List OE} {ds : List PyData}, zs xs = some ds → xs = ds.map .z
  | [], ds, h => by cases h; rfl
  | .z d :: r, ds, h => by
    unfold zs at h
    cases e : zs r with
    | none => rw [e] at h; cases h
    | some es => rw [e] at h; cases h; rw [zs_eq e]; rfl
  | .r _ :: _, _, h => by cases h
  | .e _ :: _, _, h => by cases h
theorem zs_map : ∀ ds : List PyData, zs (ds.map .z) = some ds
  | [] => rfl
  | d :: ds => by
    show (match zs (ds.map .z) with | some es => some (d :: es) | none => none) = _
    rw [zs_map ds]
theorem imp_t {p X : Prop} {_ : Decidable p} (h : p → X) : decide p = true → X := fun e => h (of_decide_eq_true e)
theorem imp_f {p X : Prop} {_ : Decidable p} (h : ¬ p → X) : decide p = false → X := fun e => h (of_decide_eq_false e)
theorem imp_nt {p X : Prop} {_ : Decidable p} (h : ¬ p → X) : (!decide p) = true → X := fun e => h (by simpa using e)
theorem imp_nf {p X : Prop} {_ : Decidable p} (h : p → X) : (!decide p) = false → X := fun e => h (by simpa using e)
section
variable {K : PySem.W.Frag} {B : Bs} {E E1 E2 E3 : En} {ta tb tc te to : TE} {t u tt : TT} {t1 t2 ts : TS} {x y z : OE} {d d1 d2 : PyData} {r r' : R2} {xs ys : List OE} {ar : TA} {b c : Bool} {i j : Int} {D : Dn} {P P' : OE → En → Prop} {PA' : List OE → En → Prop} {PT : Bool → En → Prop} {σ : L2.St} {s s' : Gh} {ρ ρ' : List Addr}
theorem a_mono {PA PA' : List OE → En → Prop} (h : EvAP K B ar E PA) (k : ∀ xs E', PA xs E' → PA' xs E') : EvAP K B ar E PA' := fun σ s ρ S Q q => h σ s ρ S Q fun v s' ρ' x E' p T S' o => q v s' ρ' x E' (k x E' p) T S' o
theorem n_mono {PA PA' : List OE → En → Prop} (h : EvNP K B te E PA) (k : ∀ xs E', PA xs E' → PA' xs E') : EvNP K B te E PA' := fun σ s ρ S Q q => h σ s ρ S Q fun v s' ρ' x E' p T S' o => q v s' ρ' x E' (k x E' p) T S' o
theorem p_tupz (h : EvAP K B ar E fun xs E1 => ∃ ds, zs xs = some ds ∧ ds.length ≤ 100000 ∧ P (.z (.tuple ds)) E1) : EvP K B (tTup ar) E P := p_tup (a_mono h fun xs E' ⟨ds, e, l, k⟩ => ⟨ds, zs_eq e, l, k⟩)
theorem p_Zz (h : EvNP K B te E fun xs E1 => ∃ ds, zs xs = some ds ∧ P (.z (.list ds)) E1) : EvP K B te E P := p_Z (n_mono h fun xs E' ⟨ds, e, k⟩ => ⟨ds, zs_eq e, k⟩)
/-- frozen arguments; the answer frozen -/
theorem p_c0 {F : DSp} {E0 : XK} {n : Nat} (h : EvAP K B ar E fun xs E1 => ∃ ds, zs xs = some ds ∧ ds.length = n ∧ ∀ (Φ : OE → List OD → Prop) (Ψ : Value → Xf → List OD → Prop), (∀ d, P (.z d) E1 → Φ (.z d) []) → F (ds.map .z) [] Φ Ψ) :
    EvP K B (tCall (spD K n F) [] E0 ar) E P := p_call0 (a_mono h fun xs E' ⟨ds, e, l, k⟩ => ⟨ds, zs_eq e, l, k⟩)
/-- the first an owned list of frozen things, the others frozen; the answer frozen -/
theorem p_c1 {F : DSp} {E0 : XK} {n : Nat} (h : EvAP K B ar E fun xs E1 => ∃ (i : Nat) (ys : List OE) (is ds : List PyData), xs = .r i :: ys ∧ zs ys = some ds ∧ ds.length + 1 = n ∧ E1.ow[i]? = some (.lst (is.map .z)) ∧
      ∀ (Φ : OE → List OD → Prop) (Ψ : Value → Xf → List OD → Prop), (∀ d (is' : List PyData), P (.z d) ⟨E1.sl, E1.ow.set i (.lst (is'.map .z))⟩ → Φ (.z d) [.lst (is'.map .z)]) → F (.r 0 :: ds.map .z) [.lst (is.map .z)] Φ Ψ) :
    EvP K B (tCall (spD K n F) [] E0 ar) E P := p_call1 (a_mono h fun xs E' ⟨i, ys, is, ds, e, e2, l, w, k⟩ => ⟨i, is, ds, by rw [e, zs_eq e2], l, w, k⟩)
theorem p_int1 (h : EvP K B ta E fun x E1 => (∃ i : Int, x = .z (.int i) ∧ P (.z (.int i)) E1) ∨ ∃ b, x = .z (.bool b) ∧ P (.z (.int (if b then 1 else 0))) E1) : EvP K B (tCB rInt (tCons ta tNil)) E P := fun σ s ρ S Q q =>
  h σ s ρ S _ fun v s1 ρ1 x E1 k T1 S1 o1 => by
    rcases k with ⟨i, e, k⟩ | ⟨b, e, k⟩
    · subst e; exact .inl ⟨i, by rw [dp_int o1], q _ s1 ρ1 _ E1 k T1 S1 (ever_int _ _)⟩
    · subst e; exact .inr ⟨b, by rw [dp_bl o1], q _ s1 ρ1 _ E1 k T1 S1 (ever_int _ _)⟩
theorem p_abs (h : EvP K B ta E fun x E1 => ∃ i : Int, x = .z (.int i) ∧ P (.z (.int (if i < 0 then -i else i))) E1) : EvP K B (tCB rAbs (tCons ta tNil)) E P := fun σ s ρ S Q q =>
  h σ s ρ S _ fun v s1 ρ1 x E1 ⟨i, e, k⟩ T1 S1 o1 => by
    subst e; exact ⟨i, by rw [dp_int o1], q _ s1 ρ1 _ E1 k T1 S1 (ever_int _ _)⟩
theorem p_min2 (h : EvP K B ta E fun x E1 => EvP K B tb E1 fun y E2 => ∃ i j : Int, x = .z (.int i) ∧ y = .z (.int j) ∧ P (.z (.int (min i j))) E2) : EvP K B (tCB rMin2 (tCons ta (tCons tb tNil))) E P := fun σ s ρ S Q q =>
  h σ s ρ S _ fun v s1 ρ1 x E1 k T1 S1 o1 => k σ s1 ρ1 S1 _ fun w s2 ρ2 y E2 ⟨i, j, e1, e2, kk⟩ T2 S2 o2 => by
    subst e1; subst e2
    have e : (if j < i then j else i) = min i j := by rw [Int.min_def]; split <;> split <;> omega
    exact ⟨i, j, by rw [dp_int (oe_up T2.g T2.r o1 : OeR K s2.G ρ2 (.z (.int i)) v), dp_int o2], by rw [e]; exact q _ s2 ρ2 _ E2 kk (T1.trans T2) S2 (ever_int _ _)⟩
theorem p_max2 (h : EvP K B ta E fun x E1 => EvP K B tb E1 fun y E2 => ∃ i j : Int, x = .z (.int i) ∧ y = .z (.int j) ∧ P (.z (.int (max i j))) E2) : EvP K B (tCB rMax2 (tCons ta (tCons tb tNil))) E P := fun σ s ρ S Q q =>
  h σ s ρ S _ fun v s1 ρ1 x E1 k T1 S1 o1 => k σ s1 ρ1 S1 _ fun w s2 ρ2 y E2 ⟨i, j, e1, e2, kk⟩ T2 S2 o2 => by
    subst e1; subst e2
    have e : (if j > i then j else i) = max i j := by rw [Int.max_def]; split <;> split <;> omega
    exact ⟨i, j, by rw [dp_int (oe_up T2.g T2.r o1 : OeR K s2.G ρ2 (.z (.int i)) v), dp_int o2], by rw [e]; exact q _ s2 ρ2 _ E2 kk (T1.trans T2) S2 (ever_int _ _)⟩
theorem p_isi {T : String} (h : EvP K B ta E fun x E1 => ∃ d b, RdO E1 x d ∧ kitB (nameD d) T = some b ∧ P (.z (.bool b)) E1) : EvP K B (tCB (rIsi K) (tCons ta (tCons (tC (.ty T)) tNil))) E P := fun σ s ρ S Q q =>
  h σ s ρ S _ fun v s1 ρ1 x E1 ⟨d, b, h1, hb, k⟩ T1 S1 o1 => ⟨v, .ty T, _, _, b, rfl, .ty T, tyx_d (rd_dp S1 h1 o1), kit_ty hb, q _ s1 ρ1 _ E1 k T1 S1 (ever_bl _ _)⟩
inductive LenO (E : En) : OE → Int → Prop
  | l {x : OE} {xs : List OE} (h : SqO E x xs) : LenO E x (xs.length : Int)
  | t {ds : List PyData} : LenO E (.z (.tuple ds)) (ds.length : Int)
  | s {w : Str} (h : w.length ≤ 100000) : LenO E (.z (.str w)) (w.length : Int)
theorem p_len (h : EvP K B ta E fun x E1 => ∃ n, LenO E1 x n ∧ P (.z (.int n)) E1) : EvP K B (tCB (rLenU K) (tCons ta tNil)) E P := fun σ s ρ S Q q =>
  h σ s ρ S _ fun v s1 ρ1 x E1 ⟨n, hl, k⟩ T1 S1 o1 => by
    cases hl with
    | l h =>
      obtain ⟨a, vs, rfl, hl, hp⟩ := sq_dp S1 h o1
      exact .inl ⟨a, vs, rfl, .inl hl, q _ s1 ρ1 _ E1 k T1 S1 (by rw [paired_len hp]; exact ever_int _ _)⟩
    | t =>
      obtain ⟨a, vs, rfl, hl, hp⟩ := tq_dp o1
      exact .inl ⟨a, vs, rfl, .inr hl, q _ s1 ρ1 _ E1 k T1 S1 (by rw [← paired_len hp, List.length_map]; exact ever_int _ _)⟩
    | s h => exact .inr ⟨_, by rw [dp_str o1], Nat.le_trans h (by decide), q _ s1 ρ1 _ E1 k T1 S1 (ever_int _ _)⟩
theorem p_chain (h : EvP K B ta E fun x E1 => EvP K B tb E1 fun y E2 => ∃ d1 d2 b, RdO E2 x d1 ∧ RdO E2 y d2 ∧ Sc2 K r d1 d2 (.bool b) ∧ (b = true → EvP K B tc E2 fun z E3 => ∃ d2 d3 d, RdO E3 y d2 ∧ RdO E3 z d3 ∧ Sc2 K r' d2 d3 d ∧ P (.z d) E3) ∧ (b = false → P (.z (.bool false)) E2)) :
    EvP K B (tChain r r' ta tb tc) E P := fun σ s ρ S Q q =>
  h σ s ρ S _ fun v s1 ρ1 x E1 h1 T1 S1 o1 => h1 σ s1 ρ1 S1 _ fun w s2 ρ2 y E2 ⟨d1, d2, b, r1, r2, hr, k1, k2⟩ T2 S2 o2 =>
    hr s2.H v w (rd_dp S2 r1 (oe_up T2.g T2.r o1)) (rd_dp S2 r2 o2) _ fun v' e => ⟨b, dp_bl (e s2.G), by
      cases b with
      | true => exact iteT (k1 rfl σ s2 ρ2 S2 _ fun w' s3 ρ3 z E3 ⟨d2', d3, d, r2', r3, hr', k⟩ T3 S3 o3 => hr' s3.H w w' (rd_dp S3 r2' (oe_up T3.g T3.r o2)) (rd_dp S3 r3 o3) _ fun v'' e' => q v'' s3 ρ3 _ E3 k ((T1.trans T2).trans T3) S3 (e' s3.G))
      | false => exact iteF (q _ s2 ρ2 _ E2 (k2 rfl) (T1.trans T2) S2 (ever_bl false _))⟩
/-! ### list(..), tuple(..), +, * -/
theorem n_list (h : EvP K B ta E fun x E1 => ∃ xs, (SqO E1 x xs ∨ ∃ ds : List PyData, x = .z (.tuple ds) ∧ xs = ds.map .z) ∧ PA' xs E1) : EvNP K B (tCB (rListOf K) (tCons ta tNil)) E PA' := fun σ s ρ S Q q =>
  h σ s ρ S _ fun v s1 ρ1 x E1 ⟨xs, hx, k⟩ T1 S1 o1 => by
    rcases hx with h | ⟨ds, e1, e2⟩
    · obtain ⟨a, vs, rfl, hl, hp⟩ := sq_dp S1 h o1
      exact ⟨a, vs, rfl, .inl hl, q vs s1 ρ1 _ E1 k T1 S1 hp⟩
    · subst e1; subst e2
      obtain ⟨a, vs, rfl, hl, hp⟩ := tq_dp o1
      exact ⟨a, vs, rfl, .inr hl, q vs s1 ρ1 _ E1 k T1 S1 hp⟩
/-- xs + ys, both owned -/
theorem n_cat (h : EvP K B ta E fun x E1 => EvP K B tb E1 fun y E2 => ∃ n m xs ys, x = .r n ∧ y = .r m ∧ E2.ow[n]? = some (.lst xs) ∧ E2.ow[m]? = some (.lst ys) ∧ xs.length + ys.length ≤ 100000 ∧ PA' (xs ++ ys) E2) : EvNP K B (tOp (rAddU K) ta tb) E PA' := fun σ s ρ S Q q =>
  h σ s ρ S _ fun v s1 ρ1 x E1 h1 T1 S1 o1 => h1 σ s1 ρ1 S1 _ fun w s2 ρ2 y E2 ⟨n, m, xs, ys, e1, e2, w1, w2, hl, k⟩ T2 S2 o2 => by
    subst e1; subst e2
    obtain ⟨a, vs, rfl, ha, g1, hv, hp⟩ := ty_lst S2 w1 (oe_up T2.g T2.r o1)
    obtain ⟨a2, vs2, rfl, ha2, g2, hv2, hp2⟩ := ty_lst S2 w2 o2
    exact Or.inr (Or.inr (Or.inl ⟨a, a2, vs, vs2, rfl, rfl, hv, hv2, by rw [← paired_len hp, ← paired_len hp2]; exact Nat.le_trans hl (by decide), q _ s2 ρ2 _ E2 k (T1.trans T2) S2 (paired_append hp hp2)⟩))
theorem paired_rep {α β : Type} {F : α → β → Prop} {xs : List α} {ys : List β} (h : Paired F xs ys) : ∀ n : Nat, Paired F (List.replicate n xs).flatten (List.replicate n ys).flatten
  | 0 => .nil
  | n + 1 => by
    rw [List.replicate_succ, List.replicate_succ, List.flatten_cons, List.flatten_cons]
    exact paired_append h (paired_rep h n)
theorem n_rep (h : EvP K B ta E fun x E1 => EvP K B tb E1 fun y E2 => ∃ (n : Nat) (xs : List OE) (k : Int), x = .r n ∧ y = .z (.int k) ∧ E2.ow[n]? = some (.lst xs) ∧ k ≤ 100000 ∧ -100000 ≤ k ∧ xs.length ≤ 100 ∧ PA' (List.replicate k.toNat xs).flatten E2) : EvNP K B (tOp (rMulU K) ta tb) E PA' := fun σ s ρ S Q q =>
  h σ s ρ S _ fun v s1 ρ1 x E1 h1 T1 S1 o1 => h1 σ s1 ρ1 S1 _ fun w s2 ρ2 y E2 ⟨n, xs, i, e1, e2, w1, hi, hi2, hl, k⟩ T2 S2 o2 => by
    subst e1; subst e2
    obtain ⟨a, vs, rfl, ha, g1, hv, hp⟩ := ty_lst S2 w1 (oe_up T2.g T2.r o1)
    refine Or.inr (Or.inl ⟨a, i, vs, rfl, dp_int o2, hv, by omega, by omega, ?_, q _ s2 ρ2 _ E2 k (T1.trans T2) S2 (paired_rep hp _)⟩)
    rw [← paired_len hp]
    have h2 : i.toNat ≤ 100000 := by omega
    exact Nat.le_trans (Nat.mul_le_mul hl h2) (by decide)
/-- a tuple of frozen things out of a list -/
theorem p_tuple (h : EvP K B ta E fun x E1 => ∃ xs ds, SqO E1 x xs ∧ zs xs = some ds ∧ P (.z (.tuple ds)) E1) : EvP K B (tCB (rTupleOf K) (tCons ta tNil)) E P := fun σ s ρ S Q q =>
  h σ s ρ S _ fun v s1 ρ1 x E1 ⟨xs, ds, hx, e, k⟩ T1 S1 o1 => by
    obtain ⟨a, vs, rfl, hl, hp⟩ := sq_dp S1 hx o1
    have e' := zs_eq e
    subst e'
    refine ⟨a, vs, rfl, .inl ⟨hl, fun l hn => ?_⟩⟩
    have hg := (S1.fresh hn).1
    refine q (.ref l) (s1.newZ l (.tup vs)) ρ1 _ E1 k (T1.trans (stepZ _ _ _ hg)) (S1.newZ hn _) ?_
    exact .tup (SqT.of (show upd s1.G l _ l = _ from upd_same)) (dps_up (kept_new hg) _ _ (dps_of hp))
/-- t + u, tuples -/
theorem p_catT (h : EvP K B ta E fun x E1 => EvP K B tb E1 fun y E2 => ∃ ds es : List PyData, x = .z (.tuple ds) ∧ y = .z (.tuple es) ∧ ds.length + es.length ≤ 100000 ∧ P (.z (.tuple (ds ++ es))) E2) : EvP K B (tOp (rAddU K) ta tb) E P := fun σ s ρ S Q q =>
  h σ s ρ S _ fun v s1 ρ1 x E1 h1 T1 S1 o1 => h1 σ s1 ρ1 S1 _ fun w s2 ρ2 y E2 ⟨ds, es, e1, e2, hl, k⟩ T2 S2 o2 => by
    subst e1; subst e2
    have o1' := oe_up T2.g T2.r o1
    obtain ⟨a, vs, rfl, hv, hp⟩ := tq_dp o1'
    obtain ⟨a2, vs2, rfl, hv2, hp2⟩ := tq_dp o2
    have l1 : ds.length = vs.length := by rw [← paired_len hp, List.length_map]
    have l2 : es.length = vs2.length := by rw [← paired_len hp2, List.length_map]
    refine Or.inr (Or.inr (Or.inr ⟨a, a2, vs, vs2, rfl, rfl, hv, hv2, by rw [← l1, ← l2]; exact Nat.le_trans hl (by decide), fun z => ?_, fun _ z => ?_, fun _ _ p hn => ?_⟩))
    · have : ds = [] := List.length_eq_zero_iff.mp (by rw [l1, z]; rfl)
      subst this
      exact q _ s2 ρ2 _ E2 k (T1.trans T2) S2 o2
    · have : es = [] := List.length_eq_zero_iff.mp (by rw [l2, z]; rfl)
      subst this
      rw [List.append_nil] at k
      exact q _ s2 ρ2 _ E2 k (T1.trans T2) S2 o1'
    · have hg := (S2.fresh hn).1
      refine q (.ref p) (s2.newZ p _) ρ2 _ E2 k ((T1.trans T2).trans (stepZ _ _ _ hg)) (S2.newZ hn _) ?_
      refine .tup (SqT.of (show upd s2.G p _ p = _ from upd_same)) (dps_up (kept_new hg) _ _ (dps_of (ρ := ρ2) ?_))
      rw [List.map_append]
      exact paired_append hp hp2
/-- t * n, a tuple -/
theorem p_repT (h : EvP K B ta E fun x E1 => EvP K B tb E1 fun y E2 => ∃ (ds : List PyData) (k : Int), x = .z (.tuple ds) ∧ y = .z (.int k) ∧ ds ≠ [] ∧ 2 ≤ k ∧ k ≤ 1000 ∧ ds.length ≤ 1000 ∧ P (.z (.tuple (List.replicate k.toNat ds).flatten)) E2) : EvP K B (tOp (rMulU K) ta tb) E P := fun σ s ρ S Q q =>
  h σ s ρ S _ fun v s1 ρ1 x E1 h1 T1 S1 o1 => h1 σ s1 ρ1 S1 _ fun w s2 ρ2 y E2 ⟨ds, i, e1, e2, n1, hi, hi2, hl, k⟩ T2 S2 o2 => by
    subst e1; subst e2
    obtain ⟨a, vs, rfl, hv, hp⟩ := tq_dp (oe_up T2.g T2.r o1)
    have l1 : ds.length = vs.length := by rw [← paired_len hp, List.length_map]
    refine Or.inr (Or.inr ⟨a, i, vs, rfl, dp_int o2, hv, fun z => n1 (List.length_eq_zero_iff.mp (by rw [l1, z]; rfl)), hi, hi2, by rw [← l1]; exact hl, fun p hn => ?_⟩)
    have hg := (S2.fresh hn).1
    refine q (.ref p) (s2.newZ p _) ρ2 _ E2 k ((T1.trans T2).trans (stepZ _ _ _ hg)) (S2.newZ hn _) ?_
    refine .tup (SqT.of (show upd s2.G p _ p = _ from upd_same)) (dps_up (kept_new hg) _ _ (dps_of (ρ := ρ2) ?_))
    have := paired_rep hp i.toNat
    rw [← List.map_replicate, ← List.map_flatten] at this
    exact this
theorem p_lstZ (h : EvAP K B ar E fun xs E1 => ∃ ds, zs xs = some ds ∧ ds.length ≤ 100000 ∧ P (.z (.list ds)) E1) : EvP K B (tLst ar) E P :=
  p_Zz (n_lst (a_mono h fun xs E' ⟨ds, e, l, k⟩ => ⟨by rw [zs_eq e, List.length_map]; exact l, ds, e, k⟩))
theorem p_lstO (h : EvAP K B ar E fun xs E1 => xs.length ≤ 100000 ∧ P (.r E1.ow.length) ⟨E1.sl, E1.ow ++ [.lst xs]⟩) : EvP K B (tLst ar) E P := p_O (n_lst h)
/-- an item of a frozen list at a place in it -/
theorem ix_mem {ds : List PyData} {i : Int} (h0 : 0 ≤ i) (h1 : i < ds.length) : ∃ d ∈ ds, IxO E (.z (.list ds)) i (.z d) := by
  obtain ⟨k, rfl⟩ : ∃ k : Nat, i = k := ⟨i.toNat, by omega⟩
  have hk : k < ds.length := by omega
  exact ⟨ds[k], List.getElem_mem hk, .l .z (atI_nat (by rw [List.getElem?_map, List.getElem?_eq_getElem hk]; rfl))⟩
theorem ix_memO {n : Nat} {xs : List OE} {i : Int} (hw : E.ow[n]? = some (.lst xs)) (h0 : 0 ≤ i) (h1 : i < xs.length) : ∃ e ∈ xs, IxO E (.r n) i e := by
  obtain ⟨k, rfl⟩ : ∃ k : Nat, i = k := ⟨i.toNat, by omega⟩
  have hk : k < xs.length := by omega
  exact ⟨xs[k], List.getElem_mem hk, .l (.r hw) (atI_nat (List.getElem?_eq_getElem hk))⟩
/-! ### freezing -/
def OE.ice (i : Nat) (d : PyData) : OE → OE
  | .z d => .z d
  | .r j => if j = i then .z d else .r j
  | .e a => .e a
def OD.ice (i : Nat) (d : PyData) : OD → OD
  | .gone => .gone
  | .lst xs => .lst (xs.map (OE.ice i d))
  | .dK kvs => .dK (kvs.map fun p => (p.1, p.2.ice i d))
def En.ice (E : En) (i : Nat) (d : PyData) : En := ⟨E.sl.map (Option.map (OE.ice i d)), (E.ow.map (OD.ice i d)).set i .gone⟩
theorem oe_ice {G : Hp} {ρ : List Addr} {i : Nat} {a : Addr} {d : PyData} {x : OE} {v : V} (ha : ρ[i]? = some a) (hd : Dp K G (.ref a) d) (h : OeR K G ρ x v) : OeR K G ρ (x.ice i d) v := by
  cases x with
  | e a => exact h
  | z e => exact h
  | r j =>
    show OeR K G ρ (if j = i then OE.z d else OE.r j) v
    by_cases hj : j = i
    · rw [if_pos hj]
      obtain ⟨a', h1, rfl⟩ := h
      subst hj
      rw [ha] at h1; cases h1
      exact hd
    · rw [if_neg hj]; exact h
theorem Sat.ice (S : Sat K B σ s ρ E) {i : Nat} {ds : List PyData} (hi : E.ow[i]? = some (.lst (ds.map .z))) (hb : B.io.length ≤ i) : ∃ s', Step s ρ s' ρ ∧ s'.H = s.H ∧ Sat K B σ s' ρ (E.ice i (.list ds)) ∧ ∃ a, ρ[i]? = some a ∧ Dp K s'.G (.ref a) (.list ds) := by
  have hil : i < ρ.length := by rw [S.own.len]; exact (List.getElem?_eq_some_iff.mp hi).1
  obtain ⟨a, ha⟩ : ∃ a, ρ[i]? = some a := ⟨_, List.getElem?_eq_getElem hil⟩
  obtain ⟨g, vs, hv, hp⟩ := S.own.rep i a _ ha hi (fun q => nomatch q)
  have up : Same s.G (s.ice a (.lst vs) hv).G := kept_new g
  have hd : Dp K (s.ice a (.lst vs) hv).G (.ref a) (.list ds) := .lst (SqL.of (show upd s.G a _ a = _ from upd_same)) (dps_up up _ _ (dps_of hp))
  have rr : ∃ t, ρ = ρ ++ t := ⟨[], by simp⟩
  refine ⟨s.ice a (.lst vs) hv, ⟨up, rr⟩, rfl, ⟨⟨?_, S.own.nd, S.own.ex, fun j b o e1 e2 e3 => ?_⟩, ⟨S.fr.io, S.fr.h, S.fr.p, kept_trans S.fr.g up, fun b e => ?_⟩, ?_, fun j x e => ?_⟩, a, ha, hd⟩
  · show ρ.length = ((E.ow.map _).set i OD.gone).length
    simp [S.own.len]
  · have e2' : ((E.ow.map (OD.ice i (.list ds))).set i .gone)[j]? = some o := e2
    by_cases hj : j = i
    · subst hj
      rw [List.getElem?_set_self (by simpa [← S.own.len] using hil)] at e2'
      cases e2'
      exact absurd rfl e3
    · rw [List.getElem?_set_ne (Ne.symm hj), List.getElem?_map] at e2'
      cases ej : E.ow[j]? with
      | none => rw [ej] at e2'; cases e2'
      | some o0 =>
        rw [ej] at e2'
        have eo : o0.ice i (.list ds) = o := Option.some.inj e2'
        subst eo
        obtain ⟨r1, r2⟩ := S.own.rep j b o0 e1 ej (fun z => e3 (by subst z; rfl))
        have ne : b ≠ a := fun q => by
          subst q
          obtain ⟨h1, h1'⟩ := List.getElem?_eq_some_iff.mp ha
          obtain ⟨h2, h2'⟩ := List.getElem?_eq_some_iff.mp e1
          exact hj ((List.getElem_inj S.own.nd).mp (by rw [h1', h2'])).symm
        refine ⟨?_, ?_⟩
        · show upd s.G a _ b = none
          rw [upd_ne ne]; exact r1
        · have r3 := od_up (ρ' := ρ) up rr r2
          show OdR K _ ρ (s.H b) _
          cases o0 with
          | gone => trivial
          | lst xs =>
            obtain ⟨ws, q1, q2⟩ := r3
            exact ⟨ws, q1, paired_l_map (paired_up q2 fun _ _ z => oe_ice ha hd z)⟩
          | dK kvs =>
            obtain ⟨ws, q1, q2⟩ := r3
            exact ⟨ws, q1, paired_l_map (paired_up q2 fun _ _ z => ⟨z.1, oe_ice ha hd z.2⟩)⟩
  · show upd s.G a _ b = B.G b
    have ne : b ≠ a := fun q => by
      subst q
      obtain ⟨t, e1, e2⟩ := S.fr.io
      obtain ⟨h1, h1'⟩ := List.getElem?_eq_some_iff.mp ha
      have hm : b ∈ t := by
        rw [e1, List.getElem?_append_right hb] at ha
        exact List.mem_of_getElem? ha
      exact e (e2 b hm)
    rw [upd_ne ne]; exact S.fr.n b e
  · show σ.length = (E.sl.map _).length
    simp [S.len]
  · have e' : (E.sl.map (Option.map (OE.ice i (.list ds))))[j]? = some (some x) := e
    rw [List.getElem?_map] at e'
    cases ej : E.sl[j]? with
    | none => rw [ej] at e'; cases e'
    | some o0 =>
      rw [ej] at e'
      cases o0 with
      | none => simp at e'
      | some x0 =>
        have ex : x0.ice i (.list ds) = x := by simpa using e'
        subst ex
        obtain ⟨v, h1, h2⟩ := S.sl j x0 ej
        exact ⟨v, h1, oe_ice ha hd (oe_up up rr h2)⟩
/-- what was owned is frozen from here on -/
theorem p_ice (h : EvP K B te E fun x E1 => ∃ i ds, x = .r i ∧ E1.ow[i]? = some (.lst (ds.map .z)) ∧ B.io.length ≤ i ∧ P (.z (.list ds)) (E1.ice i (.list ds))) : EvP K B te E P := fun σ s ρ S Q q =>
  h σ s ρ S _ fun v s1 ρ1 x E1 ⟨i, ds, e, hw, hb, k⟩ T1 S1 o1 => by
    subst e
    obtain ⟨s2, T2, eH, S2, a, ha, hd⟩ := S1.ice hw hb
    obtain ⟨a', ha', rfl⟩ := o1
    rw [ha] at ha'; cases ha'
    rw [← eH]
    exact q _ s2 ρ1 _ _ k (T1.trans T2) S2 hd
theorem w_ice {i : Nat} {ds : List PyData} (hi : E.ow[i]? = some (.lst (ds.map .z))) (hb : B.io.length ≤ i) (h : W K B ts (E.ice i (.list ds)) D) : W K B ts E D := fun σ s ρ D0 S C => by
  obtain ⟨s2, T2, eH, S2, _⟩ := S.ice hi hb
  rw [← eH]
  exact h σ s2 ρ D0 S2 C
/-! ### loops whose target is a name -/
theorem fo_list {j : Nat} {xs : List OE} {keep : En → Prop} (P : Nat → En → Prop) (h0 : P 0 E1) (hk : ∀ k E', P k E' → keep E')
    (hs : ∀ B' : Bs, B'.io.length = E1.ow.length → ∀ (k : Nat) (y : OE) E', xs[k]? = some y → P k E' → W K B' ts ⟨E'.sl.set j (some y), E'.ow⟩ { nx := P (k + 1), ct := P (k + 1), bk := D.nx, rt := D.rt })
    (hd : ∀ E', P xs.length E' → D.nx E') : ForOb K B (gName j) ts D E1 xs.length (fun k => xs.getD k (.z .none)) keep :=
  ⟨fun k E' => ⟨E'.sl.set j (some (xs.getD k (.z .none))), E'.ow⟩, P, h0, hk, fun k E' _ _ B' => tg_name, fun B' hB k E' hn p => hs B' hB k _ E' (by
    rw [List.getElem?_eq_getElem hn, List.getD_eq_getElem?_getD, List.getElem?_eq_getElem hn]; rfl) p, hd⟩
theorem fo_tup {j : Nat} {ds : List PyData} {keep : En → Prop} (P : Nat → En → Prop) (h0 : P 0 E1) (hk : ∀ k E', P k E' → keep E')
    (hs : ∀ B' : Bs, B'.io.length = E1.ow.length → ∀ (k : Nat) (y : PyData) E', ds[k]? = some y → P k E' → W K B' ts ⟨E'.sl.set j (some (.z y)), E'.ow⟩ { nx := P (k + 1), ct := P (k + 1), bk := D.nx, rt := D.rt })
    (hd : ∀ E', P ds.length E' → D.nx E') : ForOb K B (gName j) ts D E1 ds.length (fun k => .z (ds.getD k .none)) keep :=
  ⟨fun k E' => ⟨E'.sl.set j (some (.z (ds.getD k .none))), E'.ow⟩, P, h0, hk, fun k E' _ _ B' => tg_name, fun B' hB k E' hn p => hs B' hB k _ E' (by
    rw [List.getElem?_eq_getElem hn, List.getD_eq_getElem?_getD, List.getElem?_eq_getElem hn]; rfl) p, hd⟩
theorem fo_rng {j : Nat} {n : Nat} {m : Int} {keep : En → Prop} (P : Nat → En → Prop) (h0 : P 0 E1) (hk : ∀ k E', P k E' → keep E')
    (hs : ∀ B' : Bs, B'.io.length = E1.ow.length → ∀ (k : Nat) E', k < n → P k E' → W K B' ts ⟨E'.sl.set j (some (.z (.int (m + k)))), E'.ow⟩ { nx := P (k + 1), ct := P (k + 1), bk := D.nx, rt := D.rt })
    (hd : ∀ E', P n E' → D.nx E') : ForOb K B (gName j) ts D E1 n (fun k => .z (.int (m + k))) keep :=
  ⟨fun k E' => ⟨E'.sl.set j (some (.z (.int (m + k)))), E'.ow⟩, P, h0, hk, fun k E' _ _ B' => tg_name, hs, hd⟩
theorem fo_rng0 {j : Nat} {n : Nat} {keep : En → Prop} (P : Nat → En → Prop) (h0 : P 0 E1) (hk : ∀ k E', P k E' → keep E')
    (hs : ∀ B' : Bs, B'.io.length = E1.ow.length → ∀ (k : Nat) E', k < n → P k E' → W K B' ts ⟨E'.sl.set j (some (.z (.int k))), E'.ow⟩ { nx := P (k + 1), ct := P (k + 1), bk := D.nx, rt := D.rt })
    (hd : ∀ E', P n E' → D.nx E') : ForOb K B (gName j) ts D E1 n (fun k => .z (.int k)) keep :=
  ⟨fun k E' => ⟨E'.sl.set j (some (.z (.int k))), E'.ow⟩, P, h0, hk, fun k E' _ _ B' => tg_name, hs, hd⟩
/-- for k in range(n), n written or known -/
theorem w_rng {j : Nat} {n : Int} (P : Nat → En → Prop) (h : EvP K B ta E fun x E1 => x = .z (.int n) ∧ (-1000000000 ≤ n ∧ n ≤ 1000000000) ∧ P 0 E1 ∧
    (∀ B' : Bs, B'.io.length = E1.ow.length → ∀ (k : Nat) E', k < n.toNat → P k E' → W K B' ts ⟨E'.sl.set j (some (.z (.int k))), E'.ow⟩ { nx := P (k + 1), ct := P (k + 1), bk := D.nx, rt := D.rt }) ∧ ∀ E', P n.toNat E' → D.nx E') :
    W K B (tFor (iRng1 (tCons ta tNil)) (gName j) ts) E D :=
  w_forP (i_rng1 (a_cons (p_mono h fun x E1 ⟨e, hn, h0, hs, hd⟩ => a_nil ⟨n, by rw [e], hn, fo_rng0 P h0 (fun _ _ _ => trivial) hs hd⟩)))
theorem cut_map {α β : Type} (f : α → β) (l : List α) (lo hi : Option Int) : cutL (l.map f) lo hi = (cutL l lo hi).map f := by
  unfold cutL; rw [List.length_map, List.map_take, List.map_drop]
/-- x[lo:hi], x a frozen list: a frozen list -/
theorem p_sliceZ {lo hi : TO} (h : EvP K B te E fun x E1 => EvO K B lo E1 fun l E2 => EvO K B hi E2 fun u E3 => ∃ ds : List PyData, x = .z (.list ds) ∧ P (.z (.list (cutL ds l u))) E3) : EvP K B (tSl (rSlU K) te lo hi) E P :=
  p_Z (n_slice (p_mono h fun x E1 h1 σ s ρ S Q q => h1 σ s ρ S Q fun l s' ρ' E2 h2 => q l s' ρ' E2 fun σ s ρ S Q q => h2 σ s ρ S Q fun u s' ρ' E3 ⟨ds, e, k⟩ => q u s' ρ' E3 ⟨ds.map .z, by rw [e]; exact .z, cutL ds l u, cut_map OE.z ds l u, k⟩))
/-- x[lo:hi], x an owned list: a new owned list -/
theorem p_sliceO {lo hi : TO} (h : EvP K B te E fun x E1 => EvO K B lo E1 fun l E2 => EvO K B hi E2 fun u E3 => ∃ xs, SqO E3 x xs ∧ P (.r E3.ow.length) ⟨E3.sl, E3.ow ++ [.lst (cutL xs l u)]⟩) : EvP K B (tSl (rSlU K) te lo hi) E P := p_O (n_slice h)
theorem cutL_pre {α : Type} (l : List α) (n : Nat) : cutL l none (some (n : Int)) = l.take n := by
  unfold cutL
  rw [HT.sIx_nat, HT.sIx_none, List.drop_zero, Nat.sub_zero]
  rcases Nat.le_total n l.length with h | h
  · rw [Nat.min_eq_left h]
  · rw [Nat.min_eq_right h, List.take_length, List.take_of_length_le h]
/-! ### less known; an owned object left -/
abbrev Fgt : List (Option OE) → List (Option OE) → Prop := Paired fun a b => b = none ∨ a = b
theorem fgt_get : ∀ {l l' : List (Option OE)}, Fgt l l' → ∀ (i : Nat) (x : OE), l'[i]? = some (some x) → l[i]? = some (some x)
  | _, _, .nil, i, x, h => by simp at h
  | _, _, .cons r t, 0, x, h => by
    simp at h
    rcases r with r | r
    · rw [r] at h; cases h
    · rw [r, h]; rfl
  | _, _, .cons r t, i + 1, x, h => by
    have := fgt_get t i x (by simpa using h)
    simpa using this
theorem w_forget {sl' : List (Option OE)} (h : Fgt E.sl sl') (k : W K B ts ⟨sl', E.ow⟩ D) : W K B ts E D :=
  w_wk (E' := ⟨sl', E.ow⟩) ⟨paired_len h, fun i x e => fgt_get h i x e, rfl, fun i o e _ => e⟩ k
def bump (i j : Nat) : Nat := if j < i then j else j + 1
/-- E is E' with one more owned object, of number i, that nothing names -/
structure Drp (E E' : En) (i : Nat) : Prop where
  lt : i < E.ow.length
  sl : E.sl = E'.sl.map (Option.map (OE.ren (bump i)))
  ow : E.ow.eraseIdx i = E'.ow.map (OD.ren (bump i))
theorem erase_bump {α : Type} (l : List α) (i j : Nat) : (l.eraseIdx i)[j]? = l[bump i j]? := by
  rw [List.getElem?_eraseIdx]; unfold bump; split <;> rfl
theorem oe_drp {G : Hp} {ρ : List Addr} {i : Nat} {x : OE} {v : V} (h : OeR K G ρ (x.ren (bump i)) v) : OeR K G (ρ.eraseIdx i) x v := by
  cases x with
  | z d => exact h
  | e a => exact h
  | r j =>
    obtain ⟨a, ha, hv⟩ := h
    exact ⟨a, by rw [erase_bump]; exact ha, hv⟩
theorem od_drp {G : Hp} {ρ : List Addr} {i : Nat} {x : OD} {o : Option HO} (h : OdR K G ρ o (x.ren (bump i))) : OdR K G (ρ.eraseIdx i) o x := by
  cases x with
  | gone => trivial
  | lst xs =>
    obtain ⟨vs, h1, h2⟩ := h
    exact ⟨vs, h1, paired_up (paired_map_l h2) fun _ _ q => oe_drp q⟩
  | dK kvs =>
    obtain ⟨ws, h1, h2⟩ := h
    exact ⟨ws, h1, paired_up (paired_map_l h2) fun _ _ q => ⟨q.1, oe_drp q.2⟩⟩
theorem Sat.drp {i : Nat} (S : Sat K B σ s ρ E) (h : Drp E E1 i) (hb : B.io.length ≤ i) : Sat K B σ s (ρ.eraseIdx i) E1 := by
  have hil : i < ρ.length := by rw [S.own.len]; exact h.lt
  have hE1 : E1.ow.length = E.ow.length - 1 := by
    have := congrArg List.length h.ow
    rw [List.length_eraseIdx, if_pos h.lt, List.length_map] at this
    exact this.symm
  refine ⟨⟨?_, S.own.nd.sublist (List.eraseIdx_sublist _ _), fun j a e => ?_, fun j a o e1 e2 e3 => ?_⟩, ⟨?_, S.fr.h, S.fr.p, S.fr.g, S.fr.n⟩, ?_, fun j x e => ?_⟩
  · rw [List.length_eraseIdx, if_pos hil, hE1, S.own.len]
  · rw [erase_bump] at e; exact S.own.ex _ a e
  · rw [erase_bump] at e1
    have e2' : E.ow[bump i j]? = some (o.ren (bump i)) := by
      rw [← erase_bump, h.ow, List.getElem?_map, e2]; rfl
    obtain ⟨r1, r2⟩ := S.own.rep _ a _ e1 e2' (fun z => e3 (by cases o <;> first | rfl | exact nomatch z))
    exact ⟨r1, od_drp r2⟩
  · obtain ⟨t, e1, e2⟩ := S.fr.io
    refine ⟨t.eraseIdx (i - B.io.length), ?_, fun a ha => e2 a (List.mem_of_mem_eraseIdx ha)⟩
    rw [e1, List.eraseIdx_append_of_length_le hb]
  · rw [S.len, h.sl, List.length_map]
  · have e' : E.sl[j]? = some (some (x.ren (bump i))) := by rw [h.sl, List.getElem?_map, e]; rfl
    obtain ⟨v, h1, h2⟩ := S.sl j _ e'
    exact ⟨v, h1, oe_drp h2⟩
theorem w_drp {i : Nat} (h : Drp E E1 i) (hb : B.io.length ≤ i) (k : W K B ts E1 D) : W K B ts E D := fun σ s ρ D0 S C => k σ s _ D0 (S.drp h hb) C
/-- all of it frozen -/
def OD.fz : OD → Prop
  | .gone => True
  | .lst xs => ∃ ds : List PyData, xs = ds.map .z
  | .dK kvs => ∃ ds : List (Key × PyData), kvs = ds.map fun p => (p.1, .z p.2)
theorem fz_lst (ds : List PyData) : (OD.lst (ds.map .z)).fz := ⟨ds, rfl⟩
theorem oes_any {G : Hp} {ρ ρ' : List Addr} {ds : List PyData} {vs : List V} (h : OesR K G ρ (ds.map .z) vs) : OesR K G ρ' (ds.map .z) vs := of_dps (dps_of h)
theorem od_any {G : Hp} {ρ ρ' : List Addr} {o : Option HO} {x : OD} (hx : x.fz) (h : OdR K G ρ o x) : OdR K G ρ' o x := by
  cases x with
  | gone => trivial
  | lst xs =>
    obtain ⟨ds, rfl⟩ := hx
    obtain ⟨vs, h1, h2⟩ := h
    exact ⟨vs, h1, oes_any h2⟩
  | dK kvs =>
    obtain ⟨ds, rfl⟩ := hx
    obtain ⟨ws, h1, h2⟩ := h
    exact ⟨ws, h1, paired_l_map (paired_up (paired_map_l h2) fun _ _ q => ⟨q.1, q.2⟩)⟩
/-- what was laid since is left -/
theorem Sat.cut (S : Sat K B σ s ρ E) {n : Nat} (hn : B.io.length ≤ n) (hf : ∀ o ∈ E.ow.take n, o.fz) : Sat K B σ s (ρ.take n) ⟨List.replicate E.sl.length none, E.ow.take n⟩ := by
  have get : ∀ {α : Type} {l : List α} {i : Nat} {a : α}, (l.take n)[i]? = some a → l[i]? = some a := fun {α l i a} h => by
    rw [List.getElem?_take] at h
    split at h
    · exact h
    · cases h
  refine ⟨⟨by simp [S.own.len], S.own.nd.sublist (List.take_sublist _ _), fun i a e => S.own.ex i a (get e), fun i a o e1 e2 e3 => ?_⟩, ⟨?_, S.fr.h, S.fr.p, S.fr.g, S.fr.n⟩, by simp [S.len], fun i x e => ?_⟩
  · obtain ⟨r1, r2⟩ := S.own.rep i a o (get e1) (get e2) e3
    exact ⟨r1, od_any (hf o (List.mem_of_getElem? e2)) r2⟩
  · obtain ⟨t, e1, e2⟩ := S.fr.io
    refine ⟨t.take (n - B.io.length), ?_, fun a ha => e2 a (List.mem_of_mem_take ha)⟩
    rw [e1, List.take_append, List.take_of_length_le hn]
  · have := List.mem_of_getElem? e
    rw [List.mem_replicate] at this
    cases this.2
/-- a frozen answer; what was laid since is left -/
theorem w_retF (h : EvP K B te E fun x E1 => ∃ d n, x = .z d ∧ B.io.length ≤ n ∧ (∀ o ∈ E1.ow.take n, o.fz) ∧ D.rt (.z d) ⟨List.replicate E1.sl.length none, E1.ow.take n⟩) : W K B (tRet te) E D := fun σ s ρ D0 S C =>
  h σ s ρ S _ fun v s1 ρ1 x E1 ⟨d, n, e, hn, hf, k⟩ T1 S1 o1 => by
    subst e
    exact C.rt v σ s1 _ _ (.z d) (S1.cut hn hf) (show Dp K s1.G v d from o1) k
theorem t_yes (k : PT true E) : EvTP K B tYes E PT := fun σ s ρ S Q q => q true s ρ E k (.refl _ _) S
/-- a comprehension over range(n) -/
theorem p_lcR {j : Nat} {n : Int} (I : Nat → List OE → List OD → Prop) (h : EvP K B ta E fun x E1 => x = .z (.int n) ∧ (-1000000000 ≤ n ∧ n ≤ 1000000000) ∧ I 0 [] (E1.ow ++ [.lst []]) ∧ (∀ k acc ow, I k acc ow → ow[E1.ow.length]? = some (.lst acc)) ∧
    (∀ B' : Bs, B'.io.length = E1.ow.length + 1 → ∀ (k : Nat) acc ow, k < n.toNat → I k acc ow → EvTP K B' tt ⟨(E1.sl.set j none).set j (some (.z (.int k))), ow⟩ fun b E2 =>
      (b = true → EvP K B' te E2 fun y E3 => E3.ow[E1.ow.length]? = some (.lst acc) ∧ acc.length < 100000 ∧ I (k + 1) (acc ++ [y]) (E3.ow.set E1.ow.length (.lst (acc ++ [y])))) ∧ (b = false → I (k + 1) acc E2.ow)) ∧
    (∀ acc ow, I n.toNat acc ow → P (.r E1.ow.length) ⟨E1.sl, ow⟩)) : EvP K B (tLc (iRng1 (tCons ta tNil)) (gName j) tt te [j]) E P :=
  p_lc (i_rng1 (a_cons (p_mono h fun x E1 ⟨e, hn, h0, hI, hs, hd⟩ => a_nil ⟨n, by rw [e], hn, fun k E' => ⟨E'.sl.set j (some (.z (.int k))), E'.ow⟩, I, h0, fun k acc ow i => ⟨hI k acc ow i, trivial⟩, fun k acc ow _ _ B' => tc_name (by simp), fun B' hB k acc ow hk i => hs B' hB k acc ow hk i, hd⟩)))
theorem p_listZ (h : EvP K B ta E fun x E1 => ∃ ds : List PyData, (x = .z (.list ds) ∨ x = .z (.tuple ds)) ∧ P (.z (.list ds)) E1) : EvP K B (tCB (rListOf K) (tCons ta tNil)) E P :=
  p_Z (n_list (p_mono h fun x E1 ⟨ds, hx, k⟩ => ⟨ds.map .z, by
    rcases hx with rfl | rfl
    · exact .inl .z
    · exact .inr ⟨ds, rfl, rfl⟩, ds, rfl, k⟩))
theorem p_catO (h : EvP K B ta E fun x E1 => EvP K B tb E1 fun y E2 => ∃ n m xs ys, x = .r n ∧ y = .r m ∧ E2.ow[n]? = some (.lst xs) ∧ E2.ow[m]? = some (.lst ys) ∧ xs.length + ys.length ≤ 100000 ∧ P (.r E2.ow.length) ⟨E2.sl, E2.ow ++ [.lst (xs ++ ys)]⟩) : EvP K B (tOp (rAddU K) ta tb) E P := p_O (n_cat h)
end
/-! ### a module's constant that is data -/
def tCd (K : PySem.W.Frag) (d : PyData) : TE := fun _ H Q => ∀ v, Ever K v d → Q v H
def CD (K : PySem.W.Frag) (mg : Str → Option Value) (x : Str) (d : PyData) : Prop := ∃ v u, mg x = some u ∧ RelV v u ∧ Ever K v d
theorem pe_cd {X : Cx} {x : Str} {p : Pos} {d : PyData} (h : CD X.K X.mg x d) (hg : Gl X x) (hd : (x == ("__debug__" : Str)) = false := by decide) : PE X (.Name x p) (tCd X.K d) := by
  obtain ⟨v, u, h1, h2, h3⟩ := h
  exact ⟨fun pins s σ H Q I q => ld_glob I hg h1 ⟨v, H, I, h2, q v h3⟩ hd⟩
def CDk (K : PySem.W.Frag) (x : Str) (d : PyData) : Prop := ∃ a, PySem.W.nsIn K mainGlobals x = some (some (.ref a)) ∧ Ever K (.ref a) d
theorem cd_of {K : PySem.W.Frag} {h : Heap} {mg : Str → Option Value} {x : Str} {d : PyData} (X : K.In h) (G : h.Ns mainGlobals mg) (c : CDk K x d) : CD K mg x d := by
  obtain ⟨a, h1, h2⟩ := c
  exact ⟨.ref a, .ref a, PySem.W.mg_of X G h1, rfl, h2⟩
theorem ever_tup {K : PySem.W.Frag} {a : Addr} {od : Option Addr} {its : Array Value} {n : Nat} {sl : Array (Option Value)} {xs : List V} {ds : List PyData} (l : K.lookup a = some ⟨.type "tuple", od, .seq its n, sl⟩) (hs : its.size ≤ sizeLine) (hv : Vals xs its.toList) (hd : ∀ G, DpAll K G xs ds) : Ever K (.ref a) (.tuple ds) :=
  fun G => .tup (.inr ⟨_, its, n, l, rfl, rfl, hs, hv⟩) (hd G)
theorem p_cd {K : PySem.W.Frag} {B : Bs} {E : En} {d : PyData} {P : OE → En → Prop} (k : P (.z d) E) : EvP K B (tCd K d) E P := fun σ s ρ S Q q v e => q v s ρ _ E k (.refl _ _) S (e s.G)
/-- an unasked promise -/
theorem has_no {P : Program} {w : World} {K : PySem.W.Frag} {mg : Str → Option Value} {base : Heap} {x : Str} {ps : List Str} {f : Addr} {fd : FuncData} (m : mg x = some (.ref f)) (kp : PySem.W.keepIn K (.ref f) = true) (b : Binds K fd ps []) : Has P w K mg base CX0 0 x ps (fun _ _ _ _ => False) :=
  ⟨f, fd, ⟨fun vs H Q E h => h.1, fun A outer s H args us vs Q E _ _ _ _ h => by obtain ⟨_, _, _, _, _, _, _, _, z⟩ := h; exact z.elim⟩, m, kp, b⟩
/-- a def's body, as what it keeps -/
def Body (K : PySem.W.Frag) (n : Nat) (t : TS) (F : DSp) : Prop := ∀ (B : Bs) (xs : List OE) (ow : List OD) (Φ : OE → List OD → Prop) (Ψ : Value → Xf → List OD → Prop), B.io.length = ow.length → F xs ow Φ Ψ →
  W K B t ⟨xs.map some ++ List.replicate (n - xs.length) none, ow⟩ { nx := fun E' => Φ (.z .none) E'.ow, rt := fun x E' => Φ x E'.ow }
/-- a def that calls itself, by depths -/
theorem rec_has {P : Program} {w : World} {K : PySem.W.Frag} {mg : Str → Option Value} {base : Heap} {x : Str} {ps : List Str} {f : Addr} {fd : FuncData} {F : Nat → DSp} (L : Nat) (m : mg x = some (.ref f)) (kp : PySem.W.keepIn K (.ref f) = true) (b : Binds K fd ps [])
    (h0 : ∀ xs ow Φ Ψ, F 0 xs ow Φ Ψ → False) (step : ∀ r, Has P w K mg base CX0 (L + r) x ps (F r) → FnOk P w K mg base CX0 (L + r + 1) f fd ps (spD K ps.length (F (r + 1)))) : ∀ r, Has P w K mg base CX0 (L + r) x ps (F r)
  | 0 => ⟨f, fd, ⟨fun vs H Q E h => h.1, fun A outer s H args us vs Q E _ _ _ _ h => by obtain ⟨_, _, _, _, _, _, _, _, z⟩ := h; exact (h0 _ _ _ _ z).elim⟩, m, kp, b⟩
  | r + 1 => ⟨f, fd, step r (rec_has L m kp b h0 step r), m, kp, b⟩
end Y

/-! Y11: exceptions -/
namespace Y
open PySem L2 PyProof.Rows
abbrev XD := Value → Xf → En → Prop
/-- what the terms wish of exceptions follows from X -/
def XC (K : PySem.W.Frag) (B : Bs) (X : XD) (Wx : WX) : Prop := ∀ cls fs σ s ρ E dO, Sat K B σ s ρ E → X cls fs E → XR K s fs dO → Wx cls dO σ s.H
abbrev WX0 : WX := fun _ _ _ _ => False
def tRaiseN (Wx : WX) (C : Addr) : TS := fun _ σ H => Wx (.ref C) none σ H
def tTryAs (K : PySem.W.Frag) (C : Addr) (i : Nat) (tb : WX → TS) (ts : Addr → Value → Option Addr → TS) (Wout : WX) : TS := fun D σ H => tb (wAs K (.ref C) i ts Wout D) D σ H
def tTryOnly (K : PySem.W.Frag) (C : Addr) (tb : WX → TS) (ts : Addr → Value → Option Addr → TS) (Wout : WX) : TS := fun D σ H => tb (wOnly K (.ref C) ts Wout D) D σ H
abbrev tCallX (sp : Sp) (Wx : WX) (ta : TA) : TE := tCallS sp (WE Wx) ta
section
variable {K : PySem.W.Frag} {B : Bs} {E E1 E2 E3 : En} {ta tb tc te to : TE} {t u : TT} {t1 t2 ts : TS} {x y z : OE} {d d1 d2 : PyData} {xs ys : List OE} {ar : TA} {b c : Bool} {i j : Int} {D : Dn} {P P' : OE → En → Prop} {X Xo : XD} {Wx Wout : WX}
theorem Sat.unset {σ : L2.St} {s : Gh} {ρ : List Addr} (S : Sat K B σ s ρ E) (i : Nat) : Sat K B (σ.set i none) s ρ ⟨E.sl.set i none, E.ow⟩ :=
  ⟨S.own, S.fr, by rw [List.length_set, List.length_set]; exact S.len, fun k x e => by
    have e : (E.sl.set i none)[k]? = some (some x) := e
    by_cases h : i = k
    · subst h
      by_cases hl : i < E.sl.length
      · rw [List.getElem?_set_self hl] at e; cases e
      · rw [List.getElem?_eq_none (by simpa using hl)] at e; cases e
    · rw [List.getElem?_set_ne h] at e
      obtain ⟨v, h1, h2⟩ := S.sl k x e
      exact ⟨v, by rw [List.getElem?_set_ne h]; exact h1, h2⟩⟩
theorem XC.no : XC K B (fun _ _ _ => False) Wx := fun _ _ _ _ _ _ _ _ z => z.elim
theorem XC.mono {B' : Bs} (h : XC K B X Wx) (hb : ∀ σ s ρ E, Sat K B' σ s ρ E → Sat K B σ s ρ E) : XC K B' X Wx := fun cls fs σ s ρ E dO S => h cls fs σ s ρ E dO (hb σ s ρ E S)
theorem w_raise {C : Addr} (xc : XC K B X Wx) (h : X (.ref C) none E) : W K B (tRaiseN Wx C) E D := fun σ s ρ D0 S Cn => xc (.ref C) none σ s ρ E none S h rfl
theorem w_tryAs {C : Addr} {i : Nat} {tb : WX → TS} {ts : Addr → Value → Option Addr → TS} (xo : XC K B Xo Wout) (hb : ∀ Wx, XC K B X Wx → W K B (tb Wx) E D)
    (hx : ∀ cls fs E', X cls fs E' → ∃ b, PySem.W.exmOne K cls (.ref C) = some b ∧ (b = true → ∀ a dO, (fs = none → dO = none) →
      W K B (ts a cls dO) ⟨E'.sl.set i (some (.e a)), E'.ow⟩ { nx := fun E2 => D.nx ⟨E2.sl.set i none, E2.ow⟩, bk := fun E2 => D.bk ⟨E2.sl.set i none, E2.ow⟩, ct := fun E2 => D.ct ⟨E2.sl.set i none, E2.ow⟩, rt := D.rt }) ∧ (b = false → Xo cls fs E')) :
    W K B (tTryAs K C i tb ts Wout) E D := fun σ s ρ D0 S Cn =>
  hb (wAs K (.ref C) i ts Wout D0) (fun cls fs σ' s' ρ' E' dO S' hX xr => by
    obtain ⟨b, h1, h2, h3⟩ := hx cls fs E' hX
    refine ⟨b, h1, fun e a ha => ?_, fun e => xo cls fs σ' s' ρ' E' dO S' (h3 e) xr⟩
    refine h2 e a dO (fun e => by subst e; exact xr) (σ'.set i (some (.ref a))) s' ρ' _ (S'.set (x := .e a) rfl i) ⟨?_, Cn.rt, ?_, ?_⟩
    · exact fun σ2 s2 ρ2 E2 S2 k => Cn.nx _ s2 ρ2 _ (S2.unset i) k
    · exact fun σ2 s2 ρ2 E2 S2 k => Cn.bk _ s2 ρ2 _ (S2.unset i) k
    · exact fun σ2 s2 ρ2 E2 S2 k => Cn.ct _ s2 ρ2 _ (S2.unset i) k) σ s ρ D0 S Cn
theorem w_tryOnly {C : Addr} {tb : WX → TS} {ts : Addr → Value → Option Addr → TS} (xo : XC K B Xo Wout) (hb : ∀ Wx, XC K B X Wx → W K B (tb Wx) E D)
    (hx : ∀ cls fs E', X cls fs E' → ∃ b, PySem.W.exmOne K cls (.ref C) = some b ∧ (b = true → ∀ a dO, W K B (ts a cls dO) E' D) ∧ (b = false → Xo cls fs E')) :
    W K B (tTryOnly K C tb ts Wout) E D := fun σ s ρ D0 S Cn =>
  hb (wOnly K (.ref C) ts Wout D0) (fun cls fs σ' s' ρ' E' dO S' hX xr => by
    obtain ⟨b, h1, h2, h3⟩ := hx cls fs E' hX
    exact ⟨b, h1, fun e a ha => h2 e a dO σ' s' ρ' D0 S' Cn, fun e => xo cls fs σ' s' ρ' E' dO S' (h3 e) xr⟩) σ s ρ D0 S Cn
/-- a call that may raise -/
theorem p_callX {F : DSp} {n : Nat} (xc : XC K B X Wx) (h : EvAP K B ar E fun xs E1 => ∃ (ids : List Nat) (xsC : List OE) (owC : List OD) (Ψ : Value → Xf → List OD → Prop), xsC.length = n ∧ xs = xsC.map (OE.ren (reix ids E1.ow.length)) ∧ ids.Nodup ∧
      (ids.map (fun i => E1.ow[i]?) = owC.map fun o => some (o.ren (reix ids E1.ow.length))) ∧
      (∀ (Φ : OE → List OD → Prop) (Ψ' : Value → Xf → List OD → Prop), (∀ xC owC', ids.length ≤ owC'.length → P (xC.ren (reix ids E1.ow.length)) ⟨E1.sl, over E1.ow ids (owC'.map (OD.ren (reix ids E1.ow.length)))⟩ → Φ xC owC') → (∀ cls fs ow', Ψ cls fs ow' → Ψ' cls fs ow') → F xsC owC Φ Ψ') ∧
      (∀ cls fs ow', Ψ cls fs ow' → ids.length ≤ ow'.length ∧ X cls fs ⟨E1.sl, over E1.ow ids (ow'.map (OD.ren (reix ids E1.ow.length)))⟩)) :
    EvP K B (tCallX (spD K n F) Wx ar) E P := fun σ s ρ S Q q =>
  h σ s ρ S _ fun vs s1 ρ1 xs E1 ⟨ids, xsC, owC, Ψ, hlen, hx, hn, ho, hF, hX⟩ T1 S1 o1 => by
    obtain ⟨hlt, OC⟩ := S1.lend hn ho
    subst hx
    show spD K n F vs s1.H Q (WE Wx σ)
    refine ⟨by rw [← paired_len o1, List.length_map, hlen], s1, pickA ρ1 ids, xsC, owC, rfl, OC, ?_, hF _ _ ?_ ?_⟩
    · rw [← S1.own.len] at o1
      exact paired_up (paired_map_l o1) fun _ _ z => ren_in (s := s1) hlt z
    · intro xC owC' hl p v s' ρ' F' O' o'
      obtain ⟨t, e, S', T'⟩ := S1.back hn ho hl F' O'
      subst e
      refine q v s' (ρ1 ++ t) _ _ p (T1.trans T') S' ?_
      have := ren_out (s := s') hlt o'
      rw [S1.own.len] at this; exact this
    · intro cls fs ow' ψ dO s' ρ' F' O' xr
      obtain ⟨l', k⟩ := hX cls fs ow' ψ
      obtain ⟨t, e, S', T'⟩ := S1.back hn ho l' F' O'
      exact xc cls fs σ s' (ρ1 ++ t) _ dO S' k xr
/-- frozen arguments alone; the answer frozen -/
theorem p_c0X {F : DSp} {n : Nat} (xc : XC K B X Wx) (h : EvAP K B ar E fun xs E1 => ∃ ds, zs xs = some ds ∧ ds.length = n ∧ ∀ (Φ : OE → List OD → Prop) (Ψ : Value → Xf → List OD → Prop), (∀ d, P (.z d) E1 → Φ (.z d) []) → (∀ cls fs, X cls fs E1 → Ψ cls fs []) → F (ds.map .z) [] Φ Ψ) :
    EvP K B (tCallX (spD K n F) Wx ar) E P := p_callX xc fun σ s ρ S Q q => h σ s ρ S Q fun vs s1 ρ1 xs E1 ⟨ds, e, hn, hF⟩ T1 S1 o1 =>
  q vs s1 ρ1 xs E1 ⟨[], ds.map .z, [], fun cls fs ow' => ow' = [] ∧ X cls fs E1, by simpa using hn, by rw [ren_z]; exact zs_eq e, .nil, rfl, fun Φ Ψ k kx => hF Φ Ψ (fun d p => k _ _ (Nat.le_refl _) (by simpa [over, OE.ren] using p)) (fun cls fs x => kx cls fs [] ⟨rfl, x⟩), fun cls fs ow' ⟨e, x⟩ => by subst e; exact ⟨Nat.le_refl _, by simpa [over] using x⟩⟩ T1 S1 o1
/-- a test that holds of a law's own asking -/
theorem w_ifNot (h : EvP K B te E fun x E1 => x = .z (.bool true) ∧ W K B t2 E1 D) : W K B (tIfS (tNot (tB te)) t1 t2) E D :=
  w_ifP (t_not (t_B (p_mono h fun x E1 ⟨e, k⟩ => ⟨true, e, fun z => (nomatch z), fun _ => k⟩)))
theorem w_ifNot2 {tf : TE} (h : EvP K B te E fun x E1 => x = .z (.bool true) ∧ EvP K B tf E1 fun y E2 => y = .z (.bool true) ∧ W K B t2 E2 D) : W K B (tIfS (tOr (tNot (tB te)) (tNot (tB tf))) t1 t2) E D :=
  w_ifP (t_or (t_not (t_B (p_mono h fun x E1 ⟨e, k⟩ => ⟨true, e, fun z => (nomatch z), fun _ => t_not (t_B (p_mono k fun y E2 ⟨e, k⟩ => ⟨true, e, fun z => (nomatch z), fun _ => k⟩))⟩))))
/-- all behind the first n owned objects is left -/
def slB (n : Nat) : Option OE → Bool
  | some (.r j) => decide (j < n)
  | _ => true
theorem w_cut {n : Nat} (hn : B.io.length ≤ n) (hf : ∀ o ∈ E.ow.take n, o.fz) (hs : E.sl.all (slB n) = true) (k : W K B ts ⟨E.sl, E.ow.take n⟩ D) : W K B ts E D := fun σ s ρ D0 S C => by
  have S1 := S.cut hn hf
  refine k σ s (ρ.take n) D0 ⟨S1.own, S1.fr, S.len, fun i x e => ?_⟩ C
  obtain ⟨v, h1, h2⟩ := S.sl i x e
  refine ⟨v, h1, ?_⟩
  cases x with
  | z d => exact h2
  | e a => exact h2
  | r j =>
    obtain ⟨a, ha, hv⟩ := h2
    have hj := List.all_eq_true.mp hs _ (List.mem_of_getElem? e)
    have hj : j < n := of_decide_eq_true hj
    exact ⟨a, by rw [List.getElem?_take, if_pos hj]; exact ha, hv⟩
theorem p_repZ (h : EvP K B ta E fun x E1 => EvP K B tb E1 fun y E2 => ∃ (n : Nat) (ds : List PyData) (k : Int), x = .r n ∧ y = .z (.int k) ∧ E2.ow[n]? = some (.lst (ds.map .z)) ∧ k ≤ 100000 ∧ -100000 ≤ k ∧ ds.length ≤ 100 ∧ P (.z (.list (List.replicate k.toNat ds).flatten)) E2) : EvP K B (tOp (rMulU K) ta tb) E P :=
  p_Z (n_rep (p_mono h fun x E1 h1 => p_mono h1 fun y E2 ⟨n, ds, k, e1, e2, hw, h1, h2, h3, q⟩ => ⟨n, ds.map .z, k, e1, e2, hw, h1, h2, by rw [List.length_map]; exact h3, _, by rw [List.map_flatten, List.map_replicate], q⟩))
theorem p_repO (h : EvP K B ta E fun x E1 => EvP K B tb E1 fun y E2 => ∃ (n : Nat) (xs : List OE) (k : Int), x = .r n ∧ y = .z (.int k) ∧ E2.ow[n]? = some (.lst xs) ∧ k ≤ 100000 ∧ -100000 ≤ k ∧ xs.length ≤ 100 ∧ P (.r E2.ow.length) ⟨E2.sl, E2.ow ++ [.lst (List.replicate k.toNat xs).flatten]⟩) : EvP K B (tOp (rMulU K) ta tb) E P := p_O (n_rep h)
/-- isinstance(e, c) in a suite -/
def rIsX (K : PySem.W.Frag) (cls : Value) (dO : Option Addr) (a : Addr) : List V → Hp → VK → Prop := fun xs H Q => ∃ D, cls = .ref D ∧ dO = none ∧ ExcC K D ∧ rIsE K D a xs H Q
theorem call_isX {X : Cx} {a : Addr} {oe : Obj} {pn : List (Addr × Obj)} {cls : Value} {dO : Option Addr} (hz : Zc cls dO oe) (hf : ∃ vs, oe.data = .fields vs) : CallR (X.suite a ((a, oe) :: pn)) (.builtin "isinstance") (rIsX X.K cls dO a) := by
  intro pins s σ H xs us Q I r h
  obtain ⟨D, rfl, rfl, C, h⟩ := h
  exact call_isE C hz hf pins s σ H xs us Q I r h
theorem p_isX {cls : Value} {dO : Option Addr} {a D : Addr} {c : V} {cv : Value} {b : Bool} (hc : ∀ u, RelV c u → u = cv) (e1 : cls = .ref D) (e2 : dO = none) (hC : ExcC K D) (hk : PySem.W.kitOne K (.ref D) cv = some b) {i : Nat} (hi : E.sl[i]? = some (some (.e a))) (k : P (.z (.bool b)) E) :
    EvP K B (tCB (rIsX K cls dO a) (tCons (tVar i) (tCons (tC c) tNil))) E P := fun σ s ρ S Q q => by
  obtain ⟨v, h1, h2⟩ := S.sl i _ hi
  have h2 : v = .ref a := h2
  subst h2
  exact ⟨_, h1, D, e1, e2, hC, c, cv, b, rfl, hc, hk, q _ s ρ _ E k (.refl _ _) S (ever_bl b s.G)⟩
end
theorem kit_ref {K : PySem.W.Frag} {A C : Addr} {b : Bool} (h0 : PySem.W.subIn K (.ref A) (.ref A) = some true) (hd : PySem.W.hasDictIn K C = true) (ht : PySem.W.typeIn K (.ref C) = some (.type "type")) (h : PySem.W.subIn K (.ref A) (.ref C) = some b) : PySem.W.kitOne K (.ref A) (.ref C) = some b := by
  unfold PySem.W.kitOne
  by_cases e : A = C
  · subst e
    rw [if_pos (by simp)]
    rw [h0] at h
    exact h
  · rw [if_neg (by simpa using e)]
    have hc : (PySem.W.clsIn K C).isSome = true := by
      unfold PySem.W.hasDictIn at hd
      cases z : PySem.W.clsIn K C with
      | some _ => rfl
      | none => rw [z] at hd; cases hd
    have hq : ((PySem.W.clsIn K C).isSome && PySem.W.typeIn K (.ref C) == some (.type "type")) = true := by rw [hc, ht]; rfl
    show (if ((PySem.W.clsIn K C).isSome && PySem.W.typeIn K (.ref C) == some (.type "type")) = true then PySem.W.subIn K (.ref A) (.ref C) else none) = some b
    rw [if_pos hq]
    exact h
theorem kit_VE {K : PySem.W.Frag} {A : Addr} {b : Bool} (h : PySem.W.subIn K (.ref A) (.type "ValueError") = some b) : PySem.W.kitOne K (.ref A) (.type "ValueError") = some b := by
  unfold PySem.W.kitOne
  rw [if_neg (show ¬ ((Value.ref A == Value.type "ValueError") = true) from by simp)]
  show (if PySem.W.kitMeta "ValueError" = true then PySem.W.subIn K (.ref A) (.type "ValueError") else none) = some b
  rw [if_pos (by decide +kernel)]
  exact h
/-! ### x in a string, a list, a tuple -/
def flatD : PyData → Bool
  | .none => true
  | .bool _ => true
  | .int _ => true
  | .str _ => true
  | _ => false
def eqF : PyData → PyData → Bool
  | .none, .none => true
  | .bool a, .bool b => a == b
  | .bool a, .int b => (if a then 1 else 0) == b
  | .int a, .bool b => a == (if b then 1 else 0)
  | .int a, .int b => a == b
  | .str a, .str b => a == b
  | _, _ => false
def inD (d : PyData) (ds : List PyData) : Bool := ds.any fun y => eqF y d
theorem flat_v {K : PySem.W.Frag} {H : Hp} {v : V} {d : PyData} (h : Dp K H v d) (f : flatD d = true) : flatV v = true := by
  cases h <;> first | rfl | cases f
theorem eq_v {K : PySem.W.Frag} {H : Hp} {v u : V} {d e : PyData} (h1 : Dp K H v d) (h2 : Dp K H u e) (f1 : flatD d = true) (f2 : flatD e = true) : eqV v u = eqF d e := by
  cases h1 <;> first | (cases f1; done) | (cases h2 <;> first | rfl | (cases f2; done))
theorem in_v {K : PySem.W.Frag} {H : Hp} {v : V} {d : PyData} (h1 : Dp K H v d) (f1 : flatD d = true) : ∀ {vs : List V} {ds : List PyData}, DpAll K H vs ds → ds.all flatD = true → vs.all flatV = true ∧ inV v vs = inD d ds
  | _, _, .nil, _ => ⟨rfl, rfl⟩
  | _, _, .cons h t, f => by
    rw [List.all_cons, Bool.and_eq_true] at f
    obtain ⟨g1, g2⟩ := in_v h1 f1 t f.2
    refine ⟨by rw [List.all_cons, flat_v h f.1, g1]; rfl, ?_⟩
    show (eqV _ _ || inV _ _) = (eqF _ _ || inD _ _)
    rw [eq_v h h1 f.1 f1, g2]
abbrev rInS0 : R2 := fun x y H Q => ∃ i j, x = V.str i ∧ y = V.str j ∧ Q (.bl (!(Builtin.Str.occurrences j i 0 j.length 1).isEmpty)) H
abbrev rNotInS0 : R2 := fun x y H Q => ∃ i j, x = V.str i ∧ y = V.str j ∧ Q (.bl (!(!(Builtin.Str.occurrences j i 0 j.length 1).isEmpty))) H
abbrev rInU (K : PySem.W.Frag) : R2 := rOr rInS0 (rIn K false)
abbrev rNotInU (K : PySem.W.Frag) : R2 := rOr rNotInS0 (rIn K true)
theorem op_inU {X : Cx} : OpR X (compareOp .In) (rInU X.K) := opr_or op_in_str op_in_seq
theorem op_notInU {X : Cx} : OpR X (compareOp .NotIn) (rNotInU X.K) := opr_or op_notIn_str op_notIn_seq
theorem sc_inT {K : PySem.W.Frag} {d : PyData} {ds : List PyData} (f : flatD d = true) (fs : ds.all flatD = true) : Sc2 K (rInU K) d (.tuple ds) (.bool (inD d ds)) := Sc2.snd fun H x y a b Q q => by
  cases b with
  | tup hs ha =>
    obtain ⟨g1, g2⟩ := in_v a f ha fs
    refine ⟨_, _, rfl, .inr hs, flat_v a f, g1, ?_⟩
    show Q (.bl (inV _ _)) _
    rw [g2]; exact q _ (ever_bl _)
theorem sc_inL {K : PySem.W.Frag} {d : PyData} {ds : List PyData} (f : flatD d = true) (fs : ds.all flatD = true) : Sc2 K (rInU K) d (.list ds) (.bool (inD d ds)) := Sc2.snd fun H x y a b Q q => by
  cases b with
  | lst hs ha =>
    obtain ⟨g1, g2⟩ := in_v a f ha fs
    refine ⟨_, _, rfl, .inl hs, flat_v a f, g1, ?_⟩
    show Q (.bl (inV _ _)) _
    rw [g2]; exact q _ (ever_bl _)
theorem sc_notInT {K : PySem.W.Frag} {d : PyData} {ds : List PyData} (f : flatD d = true) (fs : ds.all flatD = true) : Sc2 K (rNotInU K) d (.tuple ds) (.bool (!inD d ds)) := Sc2.snd fun H x y a b Q q => by
  cases b with
  | tup hs ha =>
    obtain ⟨g1, g2⟩ := in_v a f ha fs
    refine ⟨_, _, rfl, .inr hs, flat_v a f, g1, ?_⟩
    show Q (.bl (!inV _ _)) _
    rw [g2]; exact q _ (ever_bl _)
theorem sc_notInL {K : PySem.W.Frag} {d : PyData} {ds : List PyData} (f : flatD d = true) (fs : ds.all flatD = true) : Sc2 K (rNotInU K) d (.list ds) (.bool (!inD d ds)) := Sc2.snd fun H x y a b Q q => by
  cases b with
  | lst hs ha =>
    obtain ⟨g1, g2⟩ := in_v a f ha fs
    refine ⟨_, _, rfl, .inl hs, flat_v a f, g1, ?_⟩
    show Q (.bl (!inV _ _)) _
    rw [g2]; exact q _ (ever_bl _)
/-- what the program's text says of a class of exceptions -/
structure ExK (K : PySem.W.Frag) (mg : Str → Option Value) (x : Str) (C : Addr) : Prop where
  g : mg x = some (.ref C)
  q : PySem.W.excIn K C [.type "ValueError", .type "Exception", .type "BaseException", .type "object"] "ValueError.__new__" = true
  k : PySem.W.keepIn K (.ref C) = true
  b : PySem.W.subIn K (.ref C) (.type "BaseException") = some true
  t : PySem.W.typeIn K (.ref C) = some (.type "type")
section
variable {X : Cx}
theorem ps_raiseN {x m : Str} {C : Addr} {j : Nat} {p p2 pos pos2 : Pos} {Wx : WX} (hc : X.calm = true) (tk : Takes X Wx) (e : ExK X.K X.mg x C) (hg : Gl X x) (hdb : (x == ("__debug__" : Str)) = false := by decide) :
    PS X (.Raise (some (.Call (.Name x p) [.Constant (.str m) j p2] [] pos)) none pos2) (tRaiseN Wx C) := ps_raise hc tk (pmk_own PySem.F.excBase_ValueError e.q e.g e.k (raises_own e.b e.t) hg hdb)
theorem pe_hasX {x : Str} {p pos : Pos} {e : Expr} {es : List Expr} {ta : TA} {k : Nat} {ps : List Str} {F : DSp} {Wx : WX} {n : Nat} (h : Has X.prog X.w X.K X.mg X.base (L2.CX X.prog X.w) k x ps F) (hr : Room k X.A) (tk : Takes X Wx) (hg : Gl X x) (ha : PA X (e :: es) ta) (hd : (x == ("__debug__" : Str)) = false)
    (he : starEach (e :: es) X.env = (false, eval e X.env) :: starEach es X.env := by rfl) (hpl : (backTo pos (starEach es X.env)).any (·.1) = false := by rfl) (hn : ps.length = n := by rfl) : PE X (.Call (.Name x p) (e :: es) [] pos) (tCallX (spD X.K n F) Wx ta) := by
  subst hn
  obtain ⟨f, fd, G, h1, h2, h3⟩ := h.ex
  exact pe_callS G hr hg h1 h2 h3 (fun σ => passAt tk σ) ha hd he hpl
end
section
variable {X : Cx} {x n : Str} {C : Addr} {i : Nat} {body suite : List Stmt} {b₀ : Stmt} {np pos pos' : Pos} {tb : WX → TS} {ts : Addr → Value → Option Addr → TS} {Wout : WX}
theorem ps_tryAs (hs : X.stack = X.env :: X.outer) (hf : X.env.frame = some X.env.locals) (hN : X.N.Nodup) (hi : X.N[i]? = some n) (hln : X.env.kindOf n = some .local) (hc : Names X x (.ref C)) (tk : Takes X Wout)
    (hb : ∀ (W : WX) (pn : List (Addr × Obj)) (xe : Value → Shared → Prop), Takes (X.tr pn xe) W → PassesOwn (model X.prog X.w) X.A X.env xe → PSs (X.tr pn xe) body (tb W))
    (hsu : ∀ (a : Addr) (oe : Obj) (cls : Value) (d : Option Addr) (pn : List (Addr × Obj)), Zc cls d oe → (∃ vs, oe.data = .fields vs) → PSs (X.suite a ((a, oe) :: pn)) (b₀ :: suite) (ts a cls d)) :
    PS X (.Try body [.ExceptHandler (some (.Name x np)) (some n) (b₀ :: suite) pos'] [] [] pos) (tTryAs X.K C i tb ts Wout) := ps_try_as hs hf hN hi hln hc tk hb hsu
theorem ps_tryOnly (hs : X.stack = X.env :: X.outer) (hf : X.env.frame = some X.env.locals) (hc : Names X x (.ref C)) (tk : Takes X Wout)
    (hb : ∀ (W : WX) (pn : List (Addr × Obj)) (xe : Value → Shared → Prop), Takes (X.tr pn xe) W → PassesOwn (model X.prog X.w) X.A X.env xe → PSs (X.tr pn xe) body (tb W))
    (hsu : ∀ (a : Addr) (oe : Obj) (cls : Value) (d : Option Addr) (pn : List (Addr × Obj)), Zc cls d oe → (∃ vs, oe.data = .fields vs) → PSs (X.suite a ((a, oe) :: pn)) (b₀ :: suite) (ts a cls d)) :
    PS X (.Try body [.ExceptHandler (some (.Name x np)) none (b₀ :: suite) pos'] [] [] pos) (tTryOnly X.K C tb ts Wout) := ps_try_only hs hf hc tk hb hsu
end
/-- a def's body that may raise, as what it keeps -/
def BodyX (K : PySem.W.Frag) (n : Nat) (t : WX → TS) (F : DSp) : Prop := ∀ (B : Bs) (xs : List OE) (ow : List OD) (Φ : OE → List OD → Prop) (Ψ : Value → Xf → List OD → Prop) (Wx : WX), B.io.length = ow.length → XC K B (fun cls fs E' => Ψ cls fs E'.ow) Wx → F xs ow Φ Ψ →
  W K B (t Wx) ⟨xs.map some ++ List.replicate (n - xs.length) none, ow⟩ { nx := fun E' => Φ (.z .none) E'.ow, rt := fun x E' => Φ x E'.ow }
theorem sat_start {K : PySem.W.Frag} {N : List Str} {vs : List V} {s0 : Gh} {ρ : List Addr} {xs : List OE} {ow : List OD} (O : Own K s0 ρ ow) (o : OesR K s0.G ρ xs vs) : Sat K ⟨s0.G, s0.H, ρ⟩ (L2.start N vs) s0 ρ ⟨xs.map some ++ List.replicate (N.length - xs.length) none, ow⟩ := by
  refine ⟨O, Fr.refl s0 ρ, ?_, fun i x e => ?_⟩
  · unfold L2.start
    simp [paired_len o]
  · have e' : (xs.map some ++ List.replicate (N.length - xs.length) none)[i]? = some (some x) := e
    rw [List.getElem?_append] at e'
    split at e'
    · rename_i hi
      rw [List.getElem?_map] at e'
      cases ex : xs[i]? with
      | none => rw [ex] at e'; cases e'
      | some y =>
        rw [ex] at e'
        have : y = x := Option.some.inj (Option.some.inj e')
        subst this
        obtain ⟨v, hv, ov⟩ := paired_get' o ex
        refine ⟨v, ?_, ov⟩
        unfold L2.start
        rw [List.getElem?_append_left (by simpa using (List.getElem?_eq_some_iff.mp hv).1), List.getElem?_map, hv]; rfl
    · have := List.mem_of_getElem? e'
      rw [List.mem_replicate] at this
      cases this.2
theorem fn_okX {P : Program} {w : World} {K : PySem.W.Frag} {mg : Str → Option Value} {base : Heap} {xn qual : Str} {st : Stmt} {f : Addr} {fd : FuncData} {N ps : List Str} {k : Nat} {F : DSp} (T : Fun K xn qual st f fd) (S : FnScope N ps (defScope st))
    (hbody : ∀ (cdv : Value) (A : Around) (outer : List Env) (s : Shared) (H : Hp) (E : XK), Room k (A.deeper (PyProof.Rows.envOfC qual (defScope st) s.heap.objs.size f cdv)) →
      ∃ t : WX → TS, (∀ Wx, Takes (cxOf (L2.CX P w) P w K mg base N qual (defScope st) f cdv A outer s H E) Wx → PSs (cxOf (L2.CX P w) P w K mg base N qual (defScope st) f cdv A outer s H E) (defBody st) (t Wx)) ∧ BodyX K N.length t F) :
    FnOk P w K mg base (L2.CX P w) (k + 1) f fd ps (spD K ps.length F) := by
  refine T.okX S (fun vs H Q E h => ?_) (fun cdv A outer s H vs Q E hr h => ?_)
  · exact h.1
  · obtain ⟨t, ht, hw⟩ := hbody cdv A outer s H E hr
    refine ⟨_, ht _ (takes_of rfl rfl rfl rfl), ?_⟩
    obtain ⟨_, s0, ρ, xs, ow, rfl, O, o, h⟩ := h
    refine hw ⟨s0.G, s0.H, ρ⟩ xs ow _ _ _ O.len ?_ h (L2.start N vs) s0 ρ _ (sat_start O o) ⟨fun σ s ρ' E' S' φ => ?_, fun v σ s ρ' E' x S' ox φ => ?_, fun _ _ _ _ _ z => z.elim, fun _ _ _ _ _ z => z.elim⟩
    · exact fun cls fs σ s ρ' E' dO S' x xr => x dO s ρ' S'.fr S'.own xr
    · exact φ .non s ρ' S'.fr S'.own (show Dp K s.G .non .none from .non)
    · exact φ v s ρ' S'.fr S'.own ox
end Y

/-! Y12: texts -/
namespace Y
open PySem L2 PyProof.Rows
/-! ### x[::-1] -/
def revS (z : Str) : Str := ⟨z.cps.toList.reverse.toArray⟩
theorem rev_idx (n : Nat) : Builtin.Str.strSliceIndices none none (-1) n = (List.range n).reverse := by
  unfold Builtin.Str.strSliceIndices
  show sliceRange ((n : Int) - 1) (-1) (-1) = _
  rw [PySem.W.krv_sliceRange, PySem.W.krv_range]
theorem rev_pick (z : Str) : ((List.range z.cps.size).reverse.filterMap (z.cps[·]?)).toArray = z.cps.toList.reverse.toArray := by
  rw [List.filterMap_reverse, PySem.W.krv_all]
def tRevU (K : PySem.W.Frag) (te : TE) : TE := fun σ H Q => te σ H fun x H1 => (∃ a xs, x = .ref a ∧ SqL K H1 a xs ∧ ∀ p, H1 p = none → Q (.ref p) (upd H1 p (.lst xs.reverse))) ∨ (∃ z : Str, x = .str z ∧ z.length ≤ sizeLine ∧ Q (.str (revS z)) H1)
theorem pe_revU {X : Cx} {e : Expr} {te : TE} {k : Nat} {p1 p2 p3 pos : Pos} (he : PE X e te) : PE X (.Subscript e (.Slice none none (some (.UnaryOp .USub (.Constant (.int 1) k p1) p2)) p3) pos) (tRevU X.K te) := by
  refine ⟨fun pins s σ H Q I h => ?_⟩
  refine Subscript_ (thn (he.run pins s σ H _ I h) fun v s1 ⟨x, H1, I1, r1, q1⟩ => ?_)
  have hst : PO X (some (.UnaryOp .USub (.Constant (.int 1) k p1) p2)) (tPart (tUn (rU fun i => .int (-i)) (tC (.int 1)))) := po_some (pe_un un_neg pe_int)
  refine wpAny_Slice (thn (po_none.run pins s1 σ H1 (fun o H2 => o = none ∧ H2 = H1) I1 ⟨rfl, rfl⟩) fun vl s2 ⟨l, H2, I2, pl, el, e2⟩ => ?_)
  subst el e2
  refine thn (po_none.run pins s2 σ H2 (fun o H3 => o = none ∧ H3 = H2) I2 ⟨rfl, rfl⟩) fun vu s3 ⟨u, H3, I3, pu, eu, e3⟩ => ?_
  subst eu e3
  refine thn (hst.run pins s3 σ H3 (fun o H4 => o = some (-1) ∧ H4 = H3) I3 ⟨1, rfl, -1, rfl, rfl, rfl⟩) fun vs s4 ⟨o, H4, I4, ps, eo, e4⟩ => ?_
  subst eo e4
  have I5 : Inv X pins σ H4 { s4 with heap := s4.heap.push { cls := .type "slice", data := .fields #[vl, vu, vs] } } := I4.kept (t' := s4.toks) fun b ob q => Heap.get?_push_of_some _ q
  rcases q1 with ⟨a, xs, ex, hx, q⟩ | ⟨z, ex, hz, q⟩
  · subst ex
    cases r1
    obtain ⟨its, r, ht, hz⟩ := I5.list hx
    have hlen := r.length
    show wpAny (model X.prog X.w) X.A (subscriptTail e (.Slice none none (some (.UnaryOp .USub (.Constant (.int 1) k p1) p2)) p3) (.ref a) (.ref s4.heap.objs.size)) (EP X pins σ Q) X.xe { s4 with heap := s4.heap.push { cls := .type "slice", data := .fields #[vl, vu, vs] } }
    refine tail_any (ops := [.ref a, .ref s4.heap.objs.size]) ht.isList.typeIs (PySem.slot_list_getitem.lookup) ?_ (by with_unfolding_all rfl)
    refine wpAny_getItem_list_slice ht.isList (Heap.IsSliceOf.new _ vl vu vs) pl pu ps (by decide) ?_ (by rw [List.size_toArray]; omega)
    rw [PySem.W.krv_pick]
    refine ⟨.ref _, _, I5.laid (t' := s4.toks) (o := .lst xs.reverse) (fun b ob q => Heap.get?_push_of_some _ q) (Nat.le_refl _) ?_, rfl, q _ (I5.hok.fresh (Nat.le_refl _))⟩
    exact ⟨by rw [List.length_reverse]; exact hz, _, 0, r.reverse, Heap.get?_push_size _ rfl⟩
  · subst ex
    obtain ⟨t, rfl⟩ := r1
    have hsl := Heap.IsSliceOf.new s4.heap vl vu vs
    obtain ⟨l, rfl, hl⟩ := IsPart.raw pl
    obtain ⟨u, rfl, hu⟩ := IsPart.raw pu
    obtain ⟨st, rfl, hst'⟩ := IsPart.raw ps
    show wpAny (model X.prog X.w) X.A (subscriptTail e (.Slice none none (some (.UnaryOp .USub (.Constant (.int 1) k p1) p2)) p3) (.str z t) (.ref s4.heap.objs.size)) (EP X pins σ Q) X.xe { s4 with heap := s4.heap.push { cls := .type "slice", data := .fields #[_, _, _] } }
    refine tail_any (ops := [.str z t, .ref s4.heap.objs.size]) (typeIs_str _ _ _) (PySem.F.slot_str_getitem.lookup) ?_ (by with_unfolding_all rfl)
    obtain ⟨os, hos, hcs, hds⟩ := hsl
    refine wpAny_getItem_str_slice (l := l) (u := u) (st := st) ⟨os, hos, hcs, hds⟩ (by rw [hst']; rfl) ?_
    unfold sliceMade slicePicked
    rw [hst', hl, hu]
    show Made.post (if ((-1 : Int) == 1 && _) = true then _ else Made.str ⟨((Builtin.Str.strSliceIndices none none (-1) z.length).filterMap (z.cps[·]?)).toArray⟩) (EP X pins σ Q) _
    rw [if_neg (by simp), rev_idx]
    have e1 : ((List.range z.length).reverse.filterMap (z.cps[·]?)).toArray = z.cps.toList.reverse.toArray := rev_pick z
    rw [e1]
    exact ⟨by show (z.cps.toList.reverse.toArray).size ≤ sizeLine; rw [List.size_toArray, List.length_reverse, Array.length_toList]; exact hz, .str _, H4, I5.tok _, ⟨_, rfl⟩, q⟩
section
variable {K : PySem.W.Frag} {B : Bs} {E : En} {te to : TE} {P : OE → En → Prop} {PA' : List OE → En → Prop}
theorem p_revS (h : EvP K B te E fun x E1 => ∃ z : Str, x = .z (.str z) ∧ z.length ≤ 100000 ∧ P (.z (.str (revS z))) E1) : EvP K B (tRevU K te) E P := fun σ s ρ S Q q =>
  h σ s ρ S _ fun v s1 ρ1 x E1 ⟨z, e, hl, k⟩ T1 S1 o1 => by
    subst e
    exact .inr ⟨z, dp_str o1, Nat.le_trans hl (by decide), q _ s1 ρ1 _ E1 k T1 S1 (ever_str _ _)⟩
theorem n_rev (h : EvP K B te E fun x E1 => ∃ xs, SqO E1 x xs ∧ PA' xs.reverse E1) : EvNP K B (tRevU K te) E PA' := fun σ s ρ S Q q =>
  h σ s ρ S _ fun v s1 ρ1 x E1 ⟨xs, hx, k⟩ T1 S1 o1 => by
    obtain ⟨a, vs, rfl, hl, hp⟩ := sq_dp S1 hx o1
    have rev : ∀ {xs : List OE} {vs : List V}, OesR K s1.G ρ1 xs vs → OesR K s1.G ρ1 xs.reverse vs.reverse := by
      intro xs vs h
      induction h with
      | nil => exact .nil
      | cons r t ih =>
        rw [List.reverse_cons, List.reverse_cons]
        exact paired_append ih (.cons r .nil)
    exact .inl ⟨a, vs, rfl, hl, fun p hn => q _ s1 ρ1 _ E1 k T1 S1 (rev hp) p hn⟩
def rJoin (K : PySem.W.Frag) : V → List V → Hp → VK → Prop := fun x xs H Q => ∃ a p, ∃ ys : List Str, x = .str a ∧ xs = [.ref p] ∧ (SqL K H p (ys.map V.str) ∨ SqT K H p (ys.map V.str)) ∧ (ys.map (·.length)).sum + ys.length * a.length ≤ 16777216 ∧ Q (.str (Txt.join a ys)) H
theorem strs_v {G : Hp} {ρ : List Addr} : ∀ {ys : List Str} {vs : List V}, OesR K G ρ (ys.map fun y => .z (.str y)) vs → vs = ys.map V.str
  | [], _, h => by cases h; rfl
  | y :: ys, _, h => by
    cases h with
    | cons r t => rw [dp_str r, strs_v t]; rfl
theorem p_join (h : EvP K B to E fun x E1 => ∃ a : Str, x = .z (.str a) ∧ EvP K B te E1 fun y E2 => ∃ ys : List Str, SqO E2 y (ys.map fun y => .z (.str y)) ∧ (ys.map (·.length)).sum + ys.length * a.length ≤ 1000000 ∧ P (.z (.str (Txt.join a ys))) E2) : EvP K B (tM1 (rJoin K) to te) E P := fun σ s ρ S Q q =>
  h σ s ρ S _ fun v s1 ρ1 x E1 ⟨a, e, h1⟩ T1 S1 o1 => by
    subst e
    have ev := dp_str o1
    subst ev
    refine ⟨⟨a, rfl⟩, h1 σ s1 ρ1 S1 _ fun w s2 ρ2 y E2 ⟨ys, hy, hl, k⟩ T2 S2 o2 => ?_⟩
    obtain ⟨p, vs, rfl, hs, hp⟩ := sq_dp S2 hy o2
    have := strs_v hp
    subst this
    exact ⟨a, p, ys, rfl, rfl, .inl hs, by omega, q _ s2 ρ2 _ E2 k (T1.trans T2) S2 (ever_str _ _)⟩
end
/-! ### texts as lists of their signs -/
def tx (a : List Nat) : Str := ⟨a.toArray⟩
theorem tx_len (a : List Nat) : (tx a).length = a.length := by show a.toArray.size = _; simp
theorem tx_inj {a b : List Nat} (h : tx a = tx b) : a = b := by
  have := congrArg (fun w : Str => w.cps.toList) h
  simpa [tx] using this
theorem tx_eq (a b : List Nat) : decide (tx a = tx b) = decide (a = b) := by
  by_cases h : a = b
  · rw [decide_eq_true h, decide_eq_true (by rw [h])]
  · rw [decide_eq_false h, decide_eq_false fun z => h (tx_inj z)]
theorem tx_of (w : Str) : w = tx w.cps.toList := by cases w; simp [tx]
theorem tx_app (a b : List Nat) : tx a ++ tx b = tx (a ++ b) := by
  show (⟨a.toArray ++ b.toArray⟩ : Str) = ⟨(a ++ b).toArray⟩
  rw [List.append_toArray]
theorem tx_cut (a : List Nat) (l u : Option Int) : cutS (tx a) l u = tx (cutL a l u) := by
  unfold cutS cutL
  rw [tx_len]
  rfl
theorem tx_rev (a : List Nat) : revS (tx a) = tx a.reverse := by
  unfold revS tx
  rw [List.toList_toArray]
theorem tx_nil : ("" : Str) = tx [] := by decide
theorem tx_joins : ∀ ys : List (List Nat), Str.join (tx []) (ys.map tx) = tx ys.flatten
  | [] => rfl
  | [a] => by
    show tx a = tx ([a].flatten)
    simp
  | a :: b :: r => by
    show tx a ++ tx [] ++ Str.join (tx []) ((b :: r).map tx) = _
    rw [tx_joins (b :: r), tx_app, List.append_nil, tx_app]
    rfl
theorem tx_join (ys : List (List Nat)) : Txt.join "" (ys.map tx) = tx ys.flatten := by
  rw [TL.join_eq, tx_nil, tx_joins]
section
variable {K : PySem.W.Frag} {B : Bs} {E : En} {ta tb te : TE} {P : OE → En → Prop}
theorem p_cutX {lo hi : TO} (h : EvP K B te E fun x E1 => EvO K B lo E1 fun l E2 => EvO K B hi E2 fun u E3 => ∃ a : List Nat, x = .z (.str (tx a)) ∧ a.length ≤ 100000 ∧ P (.z (.str (tx (cutL a l u)))) E3) : EvP K B (tSl (rSlU K) te lo hi) E P :=
  p_sliceS (p_mono h fun x E1 h1 σ s ρ S Q q => h1 σ s ρ S Q fun l s' ρ' E2 h2 => q l s' ρ' E2 fun σ s ρ S Q q => h2 σ s ρ S Q fun u s' ρ' E3 ⟨a, e, hl, k⟩ => q u s' ρ' E3 ⟨tx a, e, by rw [tx_len]; exact hl, by rw [tx_cut]; exact k⟩)
theorem sc_addX {a b : List Nat} (h : a.length + b.length ≤ 100000) : Sc2 K (rAddU K) (.str (tx a)) (.str (tx b)) (.str (tx (a ++ b))) := by
  have := sc_addS (K := K) (i := tx a) (j := tx b) (by rw [tx_len, tx_len]; exact h)
  rwa [tx_app] at this
theorem sc_eqX {a b : List Nat} : Sc2 K (rEqU K) (.str (tx a)) (.str (tx b)) (.bool (decide (a = b))) := by
  have := sc_eqS (K := K) (i := tx a) (j := tx b)
  rwa [tx_eq] at this
theorem sc_neX {a b : List Nat} : Sc2 K (rNeU K) (.str (tx a)) (.str (tx b)) (.bool (!decide (a = b))) := by
  have := sc_neS (K := K) (i := tx a) (j := tx b)
  rwa [tx_eq] at this
theorem len_X {a : List Nat} (h : a.length ≤ 100000) : LenO E (.z (.str (tx a))) (a.length : Int) := by
  have := LenO.s (E := E) (w := tx a) (by rw [tx_len]; exact h)
  rwa [tx_len] at this
theorem ix_X {a : List Nat} {i : Int} {c : Nat} (h : a.length ≤ 100000) (hc : atI a i = some c) : IxO E (.z (.str (tx a))) i (.z (.str (tx [c]))) := IxO.s (w := tx a) (by rw [tx_len]; exact h) (by show atI a.toArray.toList i = _; rw [List.toList_toArray]; exact hc)
theorem p_revX (h : EvP K B te E fun x E1 => ∃ a : List Nat, x = .z (.str (tx a)) ∧ a.length ≤ 100000 ∧ P (.z (.str (tx a.reverse))) E1) : EvP K B (tRevU K te) E P :=
  p_revS (p_mono h fun x E1 ⟨a, e, hl, k⟩ => ⟨tx a, e, by rw [tx_len]; exact hl, by rw [tx_rev]; exact k⟩)
end
theorem cutL_drop {α : Type} (l : List α) (n : Nat) : cutL l (some (n : Int)) none = l.drop n := by
  unfold cutL
  rw [HT.sIx_nat, HT.sIx_none]
  rcases Nat.le_total n l.length with h | h
  · rw [Nat.min_eq_left h, List.take_of_length_le (by rw [List.length_drop]; exact Nat.le_refl _)]
  · rw [Nat.min_eq_right h, List.drop_of_length_le h, List.drop_of_length_le (Nat.le_refl _), List.take_nil]
theorem cutL_mid {α : Type} (l : List α) {a b : Nat} (h1 : a ≤ b) (h2 : b ≤ l.length) : cutL l (some (a : Int)) (some (b : Int)) = (l.drop a).take (b - a) := by
  unfold cutL
  rw [HT.sIx_nat, HT.sIx_nat, Nat.min_eq_left h2, Nat.min_eq_left (Nat.le_trans h1 h2)]
/-- part j of a tuple -/
theorem p_prt {K : PySem.W.Frag} {B : Bs} {E : En} {i : Nat} {j : Nat} {x d : PyData} {ds : List PyData} {P : OE → En → Prop} (h : E.sl[i]? = some (some (.z x))) (e : x = .tuple ds) (hj : ds[j]? = some d) (q : P (.z d) E) : EvP K B (tOp (rIx K) (tVar i) (tC (.int j))) E P := by
  subst e
  exact p_ix (p_var h (p_int ⟨j, _, rfl, .t (atI_nat hj), q⟩))
/-- a or b, both without effect -/
theorem t_orP {K : PySem.W.Frag} {B : Bs} {E : En} {p q : Prop} [Decidable p] [Decidable q] {t u : TT} {PT : Bool → En → Prop} (h1 : ∀ PT : Bool → En → Prop, PT (decide p) E → EvTP K B t E PT) (h2 : ∀ PT : Bool → En → Prop, PT (decide q) E → EvTP K B u E PT) (k : PT (decide (p ∨ q)) E) : EvTP K B (tOr t u) E PT := by
  refine t_or (h1 _ ⟨fun e => ?_, fun e => h2 _ ?_⟩)
  · have : p := of_decide_eq_true e
    rw [decide_eq_true (show p ∨ q from .inl this)] at k; exact k
  · have : ¬ p := of_decide_eq_false e
    have e2 : decide (p ∨ q) = decide q := by simp [this]
    rw [e2] at k; exact k
theorem t_andP {K : PySem.W.Frag} {B : Bs} {E : En} {p q : Prop} [Decidable p] [Decidable q] {t u : TT} {PT : Bool → En → Prop} (h1 : ∀ PT : Bool → En → Prop, PT (decide p) E → EvTP K B t E PT) (h2 : p → ∀ PT : Bool → En → Prop, PT (decide q) E → EvTP K B u E PT) (k : PT (decide (p ∧ q)) E) : EvTP K B (tAnd t u) E PT := by
  refine t_and (h1 _ ⟨fun e => h2 (of_decide_eq_true e) _ ?_, fun e => ?_⟩)
  · have : p := of_decide_eq_true e
    have e2 : decide (p ∧ q) = decide q := by simp [this]
    rw [e2] at k; exact k
  · have : ¬ p := of_decide_eq_false e
    rw [decide_eq_false (fun z => this z.1)] at k; exact k
/-- a comprehension over a list by one name: the list so far is the owned object that is made -/
theorem p_lcL {K : PySem.W.Frag} {B : Bs} {E : En} {ta te : TE} {tt : TT} {P : OE → En → Prop} {j : Nat} (I : Nat → List OE → List OD → Prop) (h : EvP K B ta E fun x E1 => ∃ xs, SqO E1 x xs ∧ I 0 [] (E1.ow ++ [.lst []]) ∧ (∀ k acc ow, I k acc ow → ow[E1.ow.length]? = some (.lst acc) ∧ SqO ⟨wipeE E1.sl [j], ow⟩ x xs) ∧
    (∀ B' : Bs, B'.io.length = E1.ow.length + 1 → ∀ (k : Nat) (y : OE) acc ow, xs[k]? = some y → I k acc ow → EvTP K B' tt ⟨(E1.sl.set j none).set j (some y), ow⟩ fun b E2 =>
      (b = true → EvP K B' te E2 fun y E3 => E3.ow[E1.ow.length]? = some (.lst acc) ∧ acc.length < 100000 ∧ I (k + 1) (acc ++ [y]) (E3.ow.set E1.ow.length (.lst (acc ++ [y])))) ∧ (b = false → I (k + 1) acc E2.ow)) ∧
    (∀ acc ow, I xs.length acc ow → P (.r E1.ow.length) ⟨E1.sl, ow⟩)) : EvP K B (tLc (iList K ta) (gName j) tt te [j]) E P :=
  p_lc (i_list (p_mono h fun x E1 ⟨xs, hx, h0, hI, hs, hd⟩ => ⟨xs, hx, fun k E' => ⟨E'.sl.set j (some (xs.getD k (.z .none))), E'.ow⟩, I, h0, hI, fun k acc ow _ _ B' => tc_name (by simp), fun B' hB k acc ow hk i => hs B' hB k _ acc ow (by rw [List.getElem?_eq_getElem hk, List.getD_eq_getElem?_getD, List.getElem?_eq_getElem hk]; rfl) i, hd⟩))
end Y

/-! Y13: an end that leaves what was laid since, where what stays knows nothing of it -/
namespace Y
open PySem L2 PyProof.Rows
def OE.cl (n : Nat) : OE → Prop
  | .r j => j < n
  | _ => True
def OD.cl (n : Nat) : OD → Prop
  | .gone => True
  | .lst xs => ∀ x ∈ xs, x.cl n
  | .dK kvs => ∀ p ∈ kvs, p.2.cl n
theorem cl_z (n : Nat) (ds : List PyData) : (OD.lst (ds.map .z)).cl n := fun x hx => by
  obtain ⟨d, _, rfl⟩ := List.mem_map.mp hx
  trivial
theorem paired_mem {α β : Type} {F F' : α → β → Prop} : ∀ {xs : List α} {ys : List β}, Paired F xs ys → (∀ a ∈ xs, ∀ b, F a b → F' a b) → Paired F' xs ys
  | _, _, .nil, _ => .nil
  | _, _, .cons r t, f => .cons (f _ List.mem_cons_self _ r) (paired_mem t fun a ha b h => f a (List.mem_cons_of_mem _ ha) b h)
section
variable {K : PySem.W.Frag} {B : Bs} {E E1 : En} {te : TE} {ts : TS} {D : Dn} {σ : L2.St} {s : Gh} {ρ : List Addr}
theorem oe_cl {G : Hp} {n : Nat} {x : OE} {v : V} (hx : x.cl n) (h : OeR K G ρ x v) : OeR K G (ρ.take n) x v := by
  cases x with
  | z d => exact h
  | e a => exact h
  | r j =>
    obtain ⟨a, ha, hv⟩ := h
    have hx : j < n := hx
    exact ⟨a, by rw [List.getElem?_take, if_pos hx]; exact ha, hv⟩
theorem od_cl {G : Hp} {n : Nat} {o : Option HO} {x : OD} (hx : x.cl n) (h : OdR K G ρ o x) : OdR K G (ρ.take n) o x := by
  cases x with
  | gone => trivial
  | lst xs =>
    obtain ⟨vs, h1, h2⟩ := h
    exact ⟨vs, h1, paired_mem h2 fun x m v q => oe_cl (hx x m) q⟩
  | dK kvs =>
    obtain ⟨ws, h1, h2⟩ := h
    exact ⟨ws, h1, paired_mem h2 fun p m q r => ⟨r.1, oe_cl (hx p m) r.2⟩⟩
theorem Sat.cutC (S : Sat K B σ s ρ E) {n : Nat} (hn : B.io.length ≤ n) (hf : ∀ o ∈ E.ow.take n, o.cl n) : Sat K B σ s (ρ.take n) ⟨List.replicate E.sl.length none, E.ow.take n⟩ := by
  have get : ∀ {α : Type} {l : List α} {i : Nat} {a : α}, (l.take n)[i]? = some a → l[i]? = some a := fun {α l i a} h => by
    rw [List.getElem?_take] at h
    split at h
    · exact h
    · cases h
  refine ⟨⟨by simp [S.own.len], S.own.nd.sublist (List.take_sublist _ _), fun i a e => S.own.ex i a (get e), fun i a o e1 e2 e3 => ?_⟩, ⟨?_, S.fr.h, S.fr.p, S.fr.g, S.fr.n⟩, by simp [S.len], fun i x e => ?_⟩
  · obtain ⟨r1, r2⟩ := S.own.rep i a o (get e1) (get e2) e3
    exact ⟨r1, od_cl (hf o (List.mem_of_getElem? e2)) r2⟩
  · obtain ⟨t, e1, e2⟩ := S.fr.io
    refine ⟨t.take (n - B.io.length), ?_, fun a ha => e2 a (List.mem_of_mem_take ha)⟩
    rw [e1, List.take_append, List.take_of_length_le hn]
  · have := List.mem_of_getElem? e
    rw [List.mem_replicate] at this
    cases this.2
/-- the answer and what stays know nothing of what was laid since -/
theorem w_retC (h : EvP K B te E fun x E1 => ∃ n, x.cl n ∧ B.io.length ≤ n ∧ (∀ o ∈ E1.ow.take n, o.cl n) ∧ D.rt x ⟨List.replicate E1.sl.length none, E1.ow.take n⟩) : W K B (tRet te) E D := fun σ s ρ D0 S C =>
  h σ s ρ S _ fun v s1 ρ1 x E1 ⟨n, e, hn, hf, k⟩ T1 S1 o1 => C.rt v σ s1 _ _ x (S1.cutC hn hf) (oe_cl e o1) k
/-- all behind the first n owned objects is left -/
theorem w_cutC {n : Nat} (hn : B.io.length ≤ n) (hf : ∀ o ∈ E.ow.take n, o.cl n) (hs : E.sl.all (slB n) = true) (k : W K B ts ⟨E.sl, E.ow.take n⟩ D) : W K B ts E D := fun σ s ρ D0 S C => by
  have S1 := S.cutC hn hf
  refine k σ s (ρ.take n) D0 ⟨S1.own, S1.fr, S.len, fun i x e => ?_⟩ C
  obtain ⟨v, h1, h2⟩ := S.sl i x e
  refine ⟨v, h1, ?_⟩
  cases x with
  | z d => exact h2
  | e a => exact h2
  | r j =>
    obtain ⟨a, ha, hv⟩ := h2
    have hj := List.all_eq_true.mp hs _ (List.mem_of_getElem? e)
    have hj : j < n := of_decide_eq_true hj
    exact ⟨a, by rw [List.getElem?_take, if_pos hj]; exact ha, hv⟩
/-- a comprehension over range(n), n found on the way -/
theorem p_lcE {ta te : TE} {tt : TT} {P : OE → En → Prop} {j : Nat} (I : Nat → List OE → List OD → Prop) (h : EvP K B ta E fun x E1 => ∃ n : Int, x = .z (.int n) ∧ (-1000000000 ≤ n ∧ n ≤ 1000000000) ∧ I 0 [] (E1.ow ++ [.lst []]) ∧ (∀ k acc ow, I k acc ow → ow[E1.ow.length]? = some (.lst acc)) ∧
    (∀ B' : Bs, B'.io.length = E1.ow.length + 1 → ∀ (k : Nat) acc ow, k < n.toNat → I k acc ow → EvTP K B' tt ⟨(E1.sl.set j none).set j (some (.z (.int k))), ow⟩ fun b E2 =>
      (b = true → EvP K B' te E2 fun y E3 => E3.ow[E1.ow.length]? = some (.lst acc) ∧ acc.length < 100000 ∧ I (k + 1) (acc ++ [y]) (E3.ow.set E1.ow.length (.lst (acc ++ [y])))) ∧ (b = false → I (k + 1) acc E2.ow)) ∧
    (∀ acc ow, I n.toNat acc ow → P (.r E1.ow.length) ⟨E1.sl, ow⟩)) : EvP K B (tLc (iRng1 (tCons ta tNil)) (gName j) tt te [j]) E P :=
  p_lc (i_rng1 (a_cons (p_mono h fun x E1 ⟨n, e, hn, h0, hI, hs, hd⟩ => a_nil ⟨n, by rw [e], hn, fun k E' => ⟨E'.sl.set j (some (.z (.int k))), E'.ow⟩, I, h0, fun k acc ow i => ⟨hI k acc ow i, trivial⟩, fun k acc ow _ _ B' => tc_name (by simp), fun B' hB k acc ow hk i => hs B' hB k acc ow hk i, hd⟩)))
end
end Y

namespace Dw
open PySem L2 Y
local macro_rules | `(tactic| walk_at "zside") => `(tactic| first | assumption | decide | omega | (simp; omega) | (simp; done))
local macro_rules | `(tactic| walk_at "zop") => `(tactic| with_reducible first
  | refine op_p sc_add ?_ | refine op_p sc_sub ?_ | refine op_p sc_lt ?_ | refine op_p sc_le ?_ | refine op_p sc_gt ?_ | refine op_p sc_ge ?_ | refine op_p sc_eq ?_ | refine op_p sc_ne ?_ | refine op_p sc_eqS ?_ | refine op_p sc_neS ?_ | refine op_p sc_eqB ?_ | refine op_p sc_isN ?_ | refine op_p sc_notN ?_
  | ((refine op_p (sc_mod ?hs) ?_); (case hs => with_unfolding_all walk_at "zside")) | ((refine op_p (sc_div ?hs ?ht) ?_); (case hs => with_unfolding_all walk_at "zside"); (case ht => with_unfolding_all walk_at "zside")) | ((refine op_p (sc_mul ?hs) ?_); (case hs => with_unfolding_all walk_at "zside")) | ((refine op_p (sc_pow ?hs) ?_); (case hs => with_unfolding_all walk_at "zside")) | ((refine op_p (sc_addS ?hs) ?_); (case hs => with_unfolding_all walk_at "zside")))
local macro_rules | `(tactic| walk_at "zcall") => `(tactic| fail "no rule for this call")
local macro_rules | `(tactic| walk_at "z1") => `(tactic| first
  | with_reducible refine p_int ?_ | with_reducible refine p_str ?_ | with_reducible refine p_bl ?_ | with_reducible refine p_non ?_
  | ((with_reducible refine' p_var ?hv ?_); (case hv => rfl)) | with_reducible refine p_cd ?_
  | with_reducible refine a_nil ?_ | with_reducible refine a_cons ?_
  | walk_at "zcall"
  | with_reducible refine p_ix ?_
  | with_reducible refine p_op ?_
  | walk_at "zop"
  | with_reducible refine p_tupz ?_
  | with_reducible refine p_len ?_ | with_reducible refine p_int1 ?_ | with_reducible refine p_abs ?_ | with_reducible refine p_min2 ?_ | with_reducible refine p_max2 ?_ | with_reducible refine p_isi ?_ | with_reducible refine p_neg ?_
  | with_reducible refine p_andV ?_ | with_reducible refine p_orV ?_ | with_reducible refine p_notV ?_ | with_reducible refine p_chain ?_ | with_reducible refine p_if ?_
  | with_reducible refine t_test ?_ | with_reducible refine t_B ?_ | with_reducible refine t_not ?_ | with_reducible refine t_and ?_ | with_reducible refine t_or ?_ | with_reducible refine t_tr ?_
  | with_reducible refine p_append ?_ | with_reducible refine p_pop ?_ | with_reducible refine p_popAt ?_ | with_reducible refine p_reverse ?_ | with_reducible refine p_insert ?_
  | with_reducible refine p_lstZ ?_
  | with_reducible refine n_lst ?_ | with_reducible refine n_list ?_ | with_reducible refine n_slice ?_ | with_reducible refine o_none ?_ | with_reducible refine o_some ?_
  | ((refine' ⟨_, rfl, ?hl, ?_⟩); (case hl => first | decide | (simp only [List.length_map, List.length_cons, List.length_nil]; omega)))
  | refine ⟨_, rfl, ?_⟩
  | ((refine' ⟨_, _, rfl, IxO.t ?hx, ?_⟩); (case hx => rfl))
  | refine Or.inl ⟨_, rfl, ?_⟩
  | refine Or.inr ⟨_, rfl, ?_⟩
  | refine ⟨_, _, rfl, rfl, ?_⟩
  | ((refine ⟨_, LenO.l (SqO.z), ?_⟩)) | ((refine' ⟨_, LenO.l (SqO.r ?hl), ?_⟩); (case hl => rfl)) | ((refine ⟨_, LenO.t, ?_⟩)))
local macro_rules | `(tactic| walk_at "zp") => `(tactic| ((walk_at "z1"); (try walk_at "zp")))
local macro_rules | `(tactic| walk_at "zw") => `(tactic| first
  | ((with_reducible refine w_seq ?_); walk_at "zw")
  | ((with_reducible refine w_asgP ?_); (try walk_at "zp"); (try ((show W _ _ _ _ _); (try dsimp only [List.set]); (try walk_at "zw"))))
  | ((with_reducible refine w_ifP ?_); (try walk_at "zp"); (try first | refine ⟨imp_t ?_, imp_f ?_⟩ | refine ⟨imp_nt ?_, imp_nf ?_⟩))
  | ((with_reducible refine w_retP ?_); (try walk_at "zp"))
  | ((with_reducible refine w_dropP ?_); (try walk_at "zp"); (try ((show W _ _ _ _ _); (try walk_at "zw"))))
  | ((with_reducible refine w_next ?_); (try ((show W _ _ _ _ _); (try walk_at "zw")))))
local macro_rules | `(tactic| walk_at "zin") => `(tactic| dsimp only [List.map, List.length, List.replicate, HAdd.hAdd, Add.add, Nat.add, HSub.hSub, Sub.sub, Nat.sub, Nat.pred, HAppend.hAppend, Append.append, List.append])
local macro_rules | `(tactic| walk_at "zset") => `(tactic| dsimp only [List.set])
/-- slots of _law_state: script, seed, cell -/
def t__law_state (K : PySem.W.Frag)  : TS :=
  (tSeq (tAsg (tC (.int 7)) (gName 1))
      (tSeq (tFor (iList K (tVar 0)) (gName 2)
          (tAsg (tOp rModI (tCB rInt (tCons (tOp (rAddU K) (tOp (rMulU K) (tVar 1) (tC (.int 31))) (tVar 2)) tNil)) (tC (.int 1000003))) (gName 1)))
      (tRet (tLst (tCons (tLc (iList K (tVar 0)) (gName 2) tYes (tCB rAbs (tCons (tCB rInt (tCons (tVar 2) tNil)) tNil)) [2]) (tCons (tOp (rAddU K) (tVar 1) (tC (.int 1))) tNil))))))
/-- slots of _law_draw: state, many, cells, mixed, value -/
def t__law_draw (K : PySem.W.Frag)  : TS :=
  (tSeq (tAsg (tOp (rIx K) (tVar 0) (tC (.int 0))) (gName 2))
      (tSeq (tWhile (tAnd (tTest (tOp rGtI (tCB (rLenU K) (tCons (tVar 2) tNil)) (tC (.int 0)))) (tTest (tOp (rEqU K) (tOp (rIx K) (tVar 2) (tC (.int 0))) (tC (.int 0)))))
          (tDrop (tBM K "list" rPopAt (tVar 2) (tCons (tC (.int 0)) tNil))))
      (tSeq (tIfS (tTest (tOp rGtI (tCB (rLenU K) (tCons (tVar 2) tNil)) (tC (.int 0))))
          (tSeq (tAsg (tOp (rIx K) (tVar 2) (tC (.int 0))) (gName 4))
          (tSeq (tAsg (tOp rDivI (tVar 4) (tVar 1)) (gSub (tVar 2) (tC (.int 0)) rSetL))
          (tRet (tOp rModI (tCB rInt (tCons (tVar 4) tNil)) (tVar 1)))))
          tNext)
      (tSeq (tAsg (tOp rModI (tCB rInt (tCons (tOp (rAddU K) (tOp (rMulU K) (tOp (rIx K) (tVar 0) (tC (.int 1))) (tC (.int 48271))) (tC (.int 12345))) tNil)) (tC (.int 2147483647))) (gName 3))
      (tSeq (tAsg (tVar 3) (gSub (tVar 0) (tC (.int 1)) rSetL))
      (tRet (tOp rModI (tCB rInt (tCons (tOp rDivI (tVar 3) (tC (.int 64))) tNil)) (tVar 1))))))))
/-- slots of _law_pick: state, row -/
def t__law_pick (K : PySem.W.Frag) (F__law_draw : DSp) : TS :=
  (tRet (tOp (rIx K) (tVar 1) (tCall (spD K 2 F__law_draw) [] E0 (tCons (tVar 0) (tCons (tCB (rLenU K) (tCons (tVar 1) tNil)) tNil)))))
section
variable {K : PySem.W.Frag}
/-! ### draws -/
abbrev cO (cs : List Int) : OD := .lst ((cs.map PyData.int).map OE.z)
def Nn (cs : List Int) : Prop := (∀ c ∈ cs, 0 ≤ c) ∧ cs.length ≤ 63
def SdOk (s : Int) : Prop := 0 ≤ s ∧ s < 2147483648
theorem abs_nn (i : Int) : 0 ≤ (if i < 0 then -i else i) := by split <;> omega
def f__law_state : DSp := fun xs ow Φ _ => ∃ ns : List Int, xs = [.z (.list (ns.map .int))] ∧ ns.length ≤ 63 ∧ ow = [] ∧ ∀ (cs : List Int) (sd : Int), Nn cs → SdOk sd → Φ (.r 1) [cO cs, .lst [.r 0, .z (.int sd)]]
theorem b__law_state : Body K 3 (t__law_state K) f__law_state := by
  rintro B xs ow Φ Ψ hB ⟨ns, rfl, hl, rfl, q⟩
  unfold t__law_state
  walk_at "zin"
  refine w_seq (w_asgP (p_int ?_))
  show W _ _ _ _ _
  walk_at "zset"
  refine w_seq (w_forP (i_list (p_var rfl ⟨_, .z, fo_list (fun k E' => ∃ (sd : Int) (c : Option OE), E' = ⟨[some (.z (.list (ns.map .int))), some (.z (.int sd)), c], []⟩ ∧ 0 ≤ sd ∧ sd < 1000003) ⟨7, none, rfl, by decide, by decide⟩ (fun k E' ⟨sd, c, e, _⟩ => by subst e; exact .z) ?_ ?_⟩)))
  · rintro B2 hB2 k y E' hy ⟨sd, c, rfl, s0, s1⟩
    obtain ⟨v, rfl⟩ : ∃ v : Int, y = .z (.int v) := by
      obtain ⟨d, hd, rfl⟩ := List.mem_map.mp (List.mem_of_getElem? hy)
      obtain ⟨v, _, rfl⟩ := List.mem_map.mp hd
      exact ⟨v, rfl⟩
    walk_at "zset"
    refine w_asgP (p_op (p_int1 (p_op (p_op (p_var rfl (p_int (op_p (sc_mul (.inl ⟨by omega, by omega⟩)) (p_var rfl (op_p sc_add (.inl ⟨_, rfl, p_int (op_p (sc_mod (by decide)) ?_)⟩))))))))))
    exact ⟨_, _, rfl, Int.emod_nonneg _ (by decide), Int.emod_lt_of_pos _ (by decide)⟩
  rintro E' ⟨sd, c, rfl, s0, s1⟩
  refine w_retP (p_lstO (a_cons (p_lcL (fun k acc ow => ∃ cs : List Int, acc = (cs.map PyData.int).map OE.z ∧ cs.length = k ∧ (∀ c ∈ cs, 0 ≤ c) ∧ ow = [.lst acc]) (p_var rfl ⟨_, .z, ⟨[], rfl, rfl, fun _ h => (nomatch h), rfl⟩, ?_, ?_, ?_⟩))))
  · rintro k acc ow ⟨cs, rfl, h1, h2, rfl⟩
    exact ⟨rfl, .z⟩
  · rintro B2 hB2 k y acc ow hy ⟨cs, rfl, h1, h2, rfl⟩
    obtain ⟨v, rfl⟩ : ∃ v : Int, y = .z (.int v) := by
      obtain ⟨d, hd, rfl⟩ := List.mem_map.mp (List.mem_of_getElem? hy)
      obtain ⟨v, _, rfl⟩ := List.mem_map.mp hd
      exact ⟨v, rfl⟩
    have hk : k < ns.length := by
      have := (List.getElem?_eq_some_iff.mp hy).1
      simpa using this
    refine t_yes ⟨fun _ => ?_, fun z => (nomatch z)⟩
    refine p_abs (p_int1 (p_var rfl (.inl ⟨_, rfl, _, rfl, rfl, ?_, cs ++ [if v < 0 then -v else v], by simp, by rw [List.length_append, h1]; rfl, ?_, rfl⟩)))
    · rw [List.length_map, List.length_map]; omega
    · intro n hn
      rcases List.mem_append.mp hn with z | z
      · exact h2 n z
      · simp only [List.mem_cons, List.not_mem_nil, or_false] at z
        subst z
        exact abs_nn v
  · rintro acc ow ⟨cs, rfl, h1, h2, rfl⟩
    refine a_cons (p_op (p_var rfl (p_int (op_p sc_add (a_nil ⟨by simp, ?_⟩)))))
    exact q cs (sd + 1) ⟨h2, by rw [h1, List.length_map, List.length_map]; exact hl⟩ ⟨by omega, by omega⟩
/-- the drawn state as a callee has it: 0 the state, 1 the cells -/
def stO (cs : List Int) (sd : Int) : List OD := [.lst [.r 1, .z (.int sd)], cO cs]
def f__law_draw : DSp := fun xs ow Φ _ => ∃ (cs : List Int) (sd m : Int), xs = [.r 0, .z (.int m)] ∧ Nn cs ∧ SdOk sd ∧ 0 < m ∧ m < 100000 ∧ ow = stO cs sd ∧ ∀ (r : Int) (cs' : List Int) (sd' : Int), 0 ≤ r → r < m → Nn cs' → SdOk sd' → Φ (.z (.int r)) (stO cs' sd')
theorem b__law_draw : Body K 5 (t__law_draw K) f__law_draw := by
  rintro B xs ow Φ Ψ hB ⟨cs, sd, m, rfl, hcs, hsd, hm, hm2, rfl, q⟩
  unfold t__law_draw
  walk_at "zin"
  unfold stO
  refine w_seq (w_asgP (p_ix (p_var rfl (p_int ⟨0, .r 1, rfl, .l (.r rfl) (atI_nat (j := 0) rfl), ?_⟩))))
  show W _ _ _ _ _
  walk_at "zset"
  have ixc : ∀ {sl : List (Option OE)} {cs : List Int} {c : Int} {r : List Int}, cs = c :: r → IxO ⟨sl, [.lst [.r 1, .z (.int sd)], cO cs]⟩ (.r 1) 0 (.z (.int c)) := fun e => by subst e; exact .l (.r rfl) (atI_nat (j := 0) rfl)
  refine w_mid (fun E' => ∃ cs : List Int, Nn cs ∧ E' = ⟨[some (.r 0), some (.z (.int m)), some (.r 1), none, none], [.lst [.r 1, .z (.int sd)], cO cs]⟩) ?_ ?_
  · refine w_whileP (fun k E' => ∃ cs : List Int, Nn cs ∧ k = cs.length ∧ E' = ⟨[some (.r 0), some (.z (.int m)), some (.r 1), none, none], [.lst [.r 1, .z (.int sd)], cO cs]⟩) cs.length ⟨cs, hcs, rfl, rfl⟩ ?_
    rintro k E' ⟨cs, hcs, rfl, rfl⟩
    refine t_and (t_test (p_op (p_len (p_var rfl ⟨_, .l (.r rfl), p_int (op_p sc_gt ⟨_, rfl, imp_t fun h => ?_, imp_f fun h => ⟨fun z => (nomatch z), fun _ => ⟨cs, hcs, rfl⟩⟩⟩)⟩))))
    obtain ⟨c, r, rfl⟩ : ∃ c r, cs = c :: r := by
      cases cs with
      | nil => simp at h
      | cons c r => exact ⟨c, r, rfl⟩
    refine t_test (p_op (p_ix (p_var rfl (p_int ⟨0, _, rfl, ixc rfl, p_int (op_p sc_eq ⟨_, rfl, fun _ => ?_, fun _ => ⟨c :: r, hcs, rfl⟩⟩)⟩))))
    refine w_dropP (p_popAt (p_var rfl ⟨1, _, rfl, rfl, p_int ⟨_, 0, _, rfl, rfl, rfl, ?_, ?_⟩⟩))
    · have := hcs.2
      simp at this ⊢; omega
    · exact ⟨r.length, by simp, r, ⟨fun c hc => hcs.1 c (List.mem_cons_of_mem _ hc), by have := hcs.2; simp at this; omega⟩, rfl, rfl⟩
  rintro E' ⟨cs, hcs, rfl⟩
  refine w_seq (w_ifP (t_test (p_op (p_len (p_var rfl ⟨_, .l (.r rfl), p_int (op_p sc_gt ⟨_, rfl, imp_t fun h => ?_, imp_f fun h => w_next ?_⟩)⟩)))))
  · obtain ⟨c, r, rfl⟩ : ∃ c r, cs = c :: r := by
      cases cs with
      | nil => simp at h
      | cons c r => exact ⟨c, r, rfl⟩
    have hc : 0 ≤ c := hcs.1 c List.mem_cons_self
    refine w_seq (w_asgP (p_ix (p_var rfl (p_int ⟨0, _, rfl, ixc rfl, ?_⟩))))
    show W _ _ _ _ _
    walk_at "zset"
    refine w_seq (w_tgP (p_op (p_var rfl (p_var rfl (op_p (sc_div hm (by omega)) (tp_sub (p_var rfl (p_int ⟨1, _, 0, 0, rfl, rfl, rfl, by unfold ixN; simp, ?_⟩))))))))
    show W _ _ _ ⟨_, [.lst [.r 1, .z (.int sd)], cO (c / m :: r)]⟩ _
    have nn : Nn (c / m :: r) := by
      refine ⟨?_, by have := hcs.2; simp at this ⊢; omega⟩
      intro x hx
      rcases List.mem_cons.mp hx with z | z
      · rw [z]; exact Int.ediv_nonneg hc (by omega)
      · exact hcs.1 x (List.mem_cons_of_mem _ z)
    refine w_retP (p_op (p_int1 (p_var rfl (.inl ⟨_, rfl, p_var rfl (op_p (sc_mod hm) ?_)⟩))))
    exact q _ (c / m :: r) sd (Int.emod_nonneg _ (by omega)) (Int.emod_lt_of_pos _ hm) nn hsd
  refine w_seq (w_asgP (p_op (p_int1 (p_op (p_op (p_ix (p_var rfl (p_int ⟨1, _, rfl, .l (.r rfl) (atI_nat (j := 1) rfl), p_int (op_p (sc_mul (.inr (.inl ⟨by decide, by decide⟩))) (p_int (op_p sc_add (.inl ⟨_, rfl, p_int (op_p (sc_mod (by decide)) ?_)⟩))))⟩))))))))
  show W _ _ _ _ _
  walk_at "zset"
  have b0 : 0 ≤ (sd * 48271 + 12345) % 2147483647 := Int.emod_nonneg _ (by decide)
  have b1 : (sd * 48271 + 12345) % 2147483647 < 2147483647 := Int.emod_lt_of_pos _ (by decide)
  generalize (sd * 48271 + 12345) % 2147483647 = mx at b0 b1 ⊢
  refine w_seq (w_tgP (p_var rfl (tp_sub (p_var rfl (p_int ⟨0, _, 1, 1, rfl, rfl, rfl, rfl, ?_⟩)))))
  refine w_retP (p_op (p_int1 (p_op (p_var rfl (p_int (op_p (sc_div (by decide) (by decide)) (.inl ⟨_, rfl, p_var rfl (op_p (sc_mod hm) ?_)⟩)))))))
  exact q _ cs mx (Int.emod_nonneg _ (by omega)) (Int.emod_lt_of_pos _ hm) hcs ⟨b0, by omega⟩
/-- the drawn state as the law itself has it: 0 the cells, 1 the state -/
def laO (cs : List Int) (sd : Int) : List OD := [cO cs, .lst [.r 0, .z (.int sd)]]
/-- a call whose first argument is the state, the others frozen; the answer frozen -/
theorem p_stS {B : Bs} {E : En} {F : DSp} {n : Nat} {ar : TA} {P : OE → En → Prop} (h : EvAP K B ar E fun xs E1 => ∃ (ys : List OE) (ds : List PyData) (cs : List Int) (sd : Int) (rest : List OD), xs = .r 0 :: ys ∧ zs ys = some ds ∧ ds.length + 1 = n ∧ E1.ow = stO cs sd ++ rest ∧
      ∀ (Φ : OE → List OD → Prop) (Ψ : Value → Xf → List OD → Prop), (∀ d cs' sd', P (.z d) ⟨E1.sl, stO cs' sd' ++ rest⟩ → Φ (.z d) (stO cs' sd')) → F (.r 0 :: ds.map .z) (stO cs sd) Φ Ψ) : EvP K B (tCall (spD K n F) [] E0 ar) E P := by
  refine p_call (a_mono h ?_)
  rintro xs ⟨sl, ow⟩ ⟨ys, ds, cs, sd, rest, rfl, hy, rfl, how, k⟩
  have how : ow = stO cs sd ++ rest := how
  subst how
  refine ⟨[0, 1], .r 0 :: ds.map .z, stO cs sd, fun _ _ _ => False, by simp, ?_, by decide, ?_, fun Φ Ψ kp _ => k Φ Ψ fun d cs' sd' p => kp _ _ (Nat.le_refl _) ?_, fun _ _ _ z => z.elim⟩
  · rw [List.map_cons, ren_z, zs_eq hy]; rfl
  · show [some (OD.lst [.r 1, .z (.int sd)]), some (cO cs)] = [some (OD.lst [.r 1, .z (.int sd)]), some (OD.lst (((cs.map PyData.int).map .z).map (OE.ren _)))]
    rw [ren_z]
  · show P (.z d) ⟨sl, over (OD.lst [.r 1, .z (.int sd)] :: cO cs :: rest) [0, 1] [OD.lst [.r 1, .z (.int sd')], OD.lst (((cs'.map PyData.int).map .z).map (OE.ren _))]⟩
    rw [ren_z, show ∀ x y : OD, over (OD.lst [.r 1, .z (.int sd)] :: cO cs :: rest) [0, 1] [x, y] = x :: y :: rest from fun x y => by simp [over]]
    exact p
theorem p_stL {B : Bs} {E : En} {F : DSp} {n : Nat} {ar : TA} {P : OE → En → Prop} (h : EvAP K B ar E fun xs E1 => ∃ (ys : List OE) (ds : List PyData) (cs : List Int) (sd : Int) (rest : List OD), xs = .r 1 :: ys ∧ zs ys = some ds ∧ ds.length + 1 = n ∧ E1.ow = laO cs sd ++ rest ∧
      ∀ (Φ : OE → List OD → Prop) (Ψ : Value → Xf → List OD → Prop), (∀ d cs' sd', P (.z d) ⟨E1.sl, laO cs' sd' ++ rest⟩ → Φ (.z d) (stO cs' sd')) → F (.r 0 :: ds.map .z) (stO cs sd) Φ Ψ) : EvP K B (tCall (spD K n F) [] E0 ar) E P := by
  refine p_call (a_mono h ?_)
  rintro xs ⟨sl, ow⟩ ⟨ys, ds, cs, sd, rest, rfl, hy, rfl, how, k⟩
  have how : ow = laO cs sd ++ rest := how
  subst how
  refine ⟨[1, 0], .r 0 :: ds.map .z, stO cs sd, fun _ _ _ => False, by simp, ?_, by decide, ?_, fun Φ Ψ kp _ => k Φ Ψ fun d cs' sd' p => kp _ _ (Nat.le_refl _) ?_, fun _ _ _ z => z.elim⟩
  · rw [List.map_cons, ren_z, zs_eq hy]; rfl
  · show [some (OD.lst [.r 0, .z (.int sd)]), some (cO cs)] = [some (OD.lst [.r 0, .z (.int sd)]), some (OD.lst (((cs.map PyData.int).map .z).map (OE.ren _)))]
    rw [ren_z]
  · show P (.z d) ⟨sl, over (cO cs :: OD.lst [.r 0, .z (.int sd)] :: rest) [1, 0] [OD.lst [.r 0, .z (.int sd')], OD.lst (((cs'.map PyData.int).map .z).map (OE.ren _))]⟩
    rw [ren_z, show ∀ x y : OD, over (cO cs :: OD.lst [.r 0, .z (.int sd)] :: rest) [1, 0] [x, y] = y :: x :: rest from fun x y => by simp [over]]
    exact p
/-- a draw by the def that got the state -/
theorem p_drawS {B : Bs} {E : En} {v : Nat} {tb : TE} {P : OE → En → Prop} (hv : E.sl[v]? = some (some (.r 0))) (h : EvP K B tb E fun y E1 => ∃ (cs : List Int) (sd m : Int) (rest : List OD), y = .z (.int m) ∧ E1.ow = stO cs sd ++ rest ∧ Nn cs ∧ SdOk sd ∧ 0 < m ∧ m < 100000 ∧
      ∀ (r : Int) (cs' : List Int) (sd' : Int), 0 ≤ r → r < m → Nn cs' → SdOk sd' → P (.z (.int r)) ⟨E1.sl, stO cs' sd' ++ rest⟩) :
    EvP K B (tCall (spD K 2 f__law_draw) [] E0 (tCons (tVar v) (tCons tb tNil))) E P := by
  refine p_stS (a_cons (p_var hv (a_cons (p_mono h ?_))))
  rintro y E1 ⟨cs, sd, m, rest, rfl, ho, h1, h2, h3, h4, k⟩
  exact a_nil ⟨[.z (.int m)], [.int m], cs, sd, rest, rfl, rfl, rfl, ho, fun Φ Ψ kk => ⟨cs, sd, m, rfl, h1, h2, h3, h4, rfl, fun r cs' sd' a b c d => kk _ _ _ (k r cs' sd' a b c d)⟩⟩
/-- a draw by the law itself -/
theorem p_drawL {B : Bs} {E : En} {v : Nat} {tb : TE} {P : OE → En → Prop} (hv : E.sl[v]? = some (some (.r 1))) (h : EvP K B tb E fun y E1 => ∃ (cs : List Int) (sd m : Int) (rest : List OD), y = .z (.int m) ∧ E1.ow = laO cs sd ++ rest ∧ Nn cs ∧ SdOk sd ∧ 0 < m ∧ m < 100000 ∧
      ∀ (r : Int) (cs' : List Int) (sd' : Int), 0 ≤ r → r < m → Nn cs' → SdOk sd' → P (.z (.int r)) ⟨E1.sl, laO cs' sd' ++ rest⟩) :
    EvP K B (tCall (spD K 2 f__law_draw) [] E0 (tCons (tVar v) (tCons tb tNil))) E P := by
  refine p_stL (a_cons (p_var hv (a_cons (p_mono h ?_))))
  rintro y E1 ⟨cs, sd, m, rest, rfl, ho, h1, h2, h3, h4, k⟩
  exact a_nil ⟨[.z (.int m)], [.int m], cs, sd, rest, rfl, rfl, rfl, ho, fun Φ Ψ kk => ⟨cs, sd, m, rfl, h1, h2, h3, h4, rfl, fun r cs' sd' a b c d => kk _ _ _ (k r cs' sd' a b c d)⟩⟩
/-- a row of frozen things -/
inductive RowO : OE → List PyData → Prop
  | l {ds} : RowO (.z (.list ds)) ds
  | t {ds} : RowO (.z (.tuple ds)) ds
theorem row_len {E : En} {x : OE} {ds : List PyData} (h : RowO x ds) : LenO E x ds.length := by
  cases h
  · have := LenO.l (E := E) (x := .z (.list ds)) SqO.z
    rwa [List.length_map] at this
  · exact .t
theorem row_ix {E : En} {x : OE} {ds : List PyData} {i : Int} (h : RowO x ds) (h0 : 0 ≤ i) (h1 : i < ds.length) : ∃ d ∈ ds, IxO E x i (.z d) := by
  cases h
  · exact ix_mem h0 h1
  · obtain ⟨k, rfl⟩ : ∃ k : Nat, i = k := ⟨i.toNat, by omega⟩
    have hk : k < ds.length := by omega
    exact ⟨ds[k], List.getElem_mem hk, .t (atI_nat (List.getElem?_eq_getElem hk))⟩
def f__law_pick : DSp := fun xs ow Φ _ => ∃ (cs : List Int) (sd : Int) (row : OE) (ds : List PyData), xs = [.r 0, row] ∧ RowO row ds ∧ ds ≠ [] ∧ ds.length < 100000 ∧ Nn cs ∧ SdOk sd ∧ ow = stO cs sd ∧ ∀ d ∈ ds, ∀ (cs' : List Int) (sd' : Int), Nn cs' → SdOk sd' → Φ (.z d) (stO cs' sd')
theorem b__law_pick : Body K 2 (t__law_pick K f__law_draw) f__law_pick := by
  rintro B xs ow Φ Ψ hB ⟨cs, sd, row, ds, rfl, hr, hd, hl, hcs, hsd, rfl, q⟩
  unfold t__law_pick
  walk_at "zin"
  have hp : 0 < ds.length := List.length_pos_iff.mpr hd
  refine w_retP (p_ix (p_var rfl (p_drawS rfl (p_len (p_var rfl ⟨_, row_len hr, cs, sd, _, [], rfl, by simp, hcs, hsd, by omega, by omega, fun r cs' sd' a b c e => ?_⟩)))))
  obtain ⟨d, hm, hx⟩ := row_ix (E := ⟨[some (.r 0), some row], stO cs' sd' ++ []⟩) hr a b
  exact ⟨r, _, rfl, hx, by simpa using q d hm cs' sd' c e⟩
theorem p_pickS {B : Bs} {E : En} {v : Nat} {tb : TE} {P : OE → En → Prop} (hv : E.sl[v]? = some (some (.r 0))) (h : EvP K B tb E fun y E1 => ∃ (cs : List Int) (sd : Int) (ds : List PyData) (rest : List OD), RowO y ds ∧ E1.ow = stO cs sd ++ rest ∧ Nn cs ∧ SdOk sd ∧ ds ≠ [] ∧ ds.length < 100000 ∧
      ∀ d ∈ ds, ∀ (cs' : List Int) (sd' : Int), Nn cs' → SdOk sd' → P (.z d) ⟨E1.sl, stO cs' sd' ++ rest⟩) :
    EvP K B (tCall (spD K 2 f__law_pick) [] E0 (tCons (tVar v) (tCons tb tNil))) E P := by
  refine p_stS (a_cons (p_var hv (a_cons (p_mono h ?_))))
  rintro y E1 ⟨cs, sd, ds, rest, hr, ho, h1, h2, h3, h4, k⟩
  obtain ⟨z, rfl⟩ : ∃ z, y = .z z := by cases hr <;> exact ⟨_, rfl⟩
  exact a_nil ⟨[.z z], [z], cs, sd, rest, rfl, rfl, rfl, ho, fun Φ Ψ kk => ⟨cs, sd, _, ds, rfl, hr, h3, h4, h1, h2, rfl, fun d hd cs' sd' c e => kk _ _ _ (k d hd cs' sd' c e)⟩⟩
theorem p_pickL {B : Bs} {E : En} {v : Nat} {tb : TE} {P : OE → En → Prop} (hv : E.sl[v]? = some (some (.r 1))) (h : EvP K B tb E fun y E1 => ∃ (cs : List Int) (sd : Int) (ds : List PyData) (rest : List OD), RowO y ds ∧ E1.ow = laO cs sd ++ rest ∧ Nn cs ∧ SdOk sd ∧ ds ≠ [] ∧ ds.length < 100000 ∧
      ∀ d ∈ ds, ∀ (cs' : List Int) (sd' : Int), Nn cs' → SdOk sd' → P (.z d) ⟨E1.sl, laO cs' sd' ++ rest⟩) :
    EvP K B (tCall (spD K 2 f__law_pick) [] E0 (tCons (tVar v) (tCons tb tNil))) E P := by
  refine p_stL (a_cons (p_var hv (a_cons (p_mono h ?_))))
  rintro y E1 ⟨cs, sd, ds, rest, hr, ho, h1, h2, h3, h4, k⟩
  obtain ⟨z, rfl⟩ : ∃ z, y = .z z := by cases hr <;> exact ⟨_, rfl⟩
  exact a_nil ⟨[.z z], [z], cs, sd, rest, rfl, rfl, rfl, ho, fun Φ Ψ kk => ⟨cs, sd, _, ds, rfl, hr, h3, h4, h1, h2, rfl, fun d hd cs' sd' c e => kk _ _ _ (k d hd cs' sd' c e)⟩⟩
theorem p_state {B : Bs} {sl : List (Option OE)} {v : Nat} {ns : List Int} {P : OE → En → Prop} (hv : sl[v]? = some (some (.z (.list (ns.map .int))))) (hl : ns.length ≤ 63) (k : ∀ (cs : List Int) (sd : Int), Nn cs → SdOk sd → P (.r 1) ⟨sl, laO cs sd⟩) : EvP K B (tCall (spD K 1 f__law_state) [] E0 (tCons (tVar v) tNil)) ⟨sl, []⟩ P := by
  refine p_call (a_cons (p_var hv (a_nil ⟨[], [.z (.list (ns.map .int))], [], fun _ _ _ => False, rfl, rfl, .nil, rfl, fun Φ Ψ kp _ => ⟨ns, rfl, hl, rfl, fun cs sd h1 h2 => kp _ _ (Nat.zero_le _) ?_⟩, fun _ _ _ z => z.elim⟩)))
  show P (.r 1) ⟨sl, [OD.lst (((cs.map PyData.int).map .z).map (OE.ren _)), .lst [.r 0, .z (.int sd)]]⟩
  rw [ren_z]
  exact k cs sd h1 h2
/-- a text of characters -/
def Tk (u : List Nat) : Prop := ∀ c ∈ u, c < 1114112
theorem sh_iix (a b : Int) {u : List Nat} (h : Tk u) : SeqAt.shaped (.tuple [.int a, .int b, .str (tx u)]) = true := by
  have h1 : PyData.strOk (tx u) = true := by
    show (u.toArray.all fun c => decide (c < 0x110000)) = true
    simpa [Tk] using h
  simp [SeqAt.shaped, PyData.canLay0, PyData.canLayAll0, PyData.depth, PyData.depthAll, h1]
theorem sh_ii (a b : Int) : SeqAt.shaped (.tuple [.int a, .int b]) = true := by
  simp [SeqAt.shaped, PyData.canLay0, PyData.canLayAll0, PyData.depth, PyData.depthAll]
theorem eqv_sh {d : PyData} (h : SeqAt.shaped d = true) : PyData.eqv d d = true := SeqAt.eqv_refl _ (SeqAt.canLay_of_shaped h)
end
end Dw

namespace T
open PySem L2 Y
local macro_rules | `(tactic| walk_at "zside") => `(tactic| first | assumption | decide | omega | (simp; omega) | (simp; done))
local macro_rules | `(tactic| walk_at "zop") => `(tactic| with_reducible first
  | refine op_p sc_add ?_ | refine op_p sc_sub ?_ | refine op_p sc_lt ?_ | refine op_p sc_le ?_ | refine op_p sc_gt ?_ | refine op_p sc_ge ?_ | refine op_p sc_eq ?_ | refine op_p sc_ne ?_ | refine op_p sc_eqS ?_ | refine op_p sc_neS ?_ | refine op_p sc_eqB ?_ | refine op_p sc_isN ?_ | refine op_p sc_notN ?_
  | ((refine op_p (sc_mod ?hs) ?_); (case hs => with_unfolding_all walk_at "zside")) | ((refine op_p (sc_div ?hs ?ht) ?_); (case hs => with_unfolding_all walk_at "zside"); (case ht => with_unfolding_all walk_at "zside")) | ((refine op_p (sc_mul ?hs) ?_); (case hs => with_unfolding_all walk_at "zside")) | ((refine op_p (sc_pow ?hs) ?_); (case hs => with_unfolding_all walk_at "zside")) | ((refine op_p (sc_addS ?hs) ?_); (case hs => with_unfolding_all walk_at "zside")))
local macro_rules | `(tactic| walk_at "zcall") => `(tactic| fail "no rule for this call")
local macro_rules | `(tactic| walk_at "z1") => `(tactic| first
  | with_reducible refine p_int ?_ | with_reducible refine p_str ?_ | with_reducible refine p_bl ?_ | with_reducible refine p_non ?_
  | ((with_reducible refine' p_var ?hv ?_); (case hv => rfl)) | with_reducible refine p_cd ?_
  | with_reducible refine a_nil ?_ | with_reducible refine a_cons ?_
  | walk_at "zcall"
  | with_reducible refine p_ix ?_
  | with_reducible refine p_op ?_
  | walk_at "zop"
  | with_reducible refine p_tupz ?_
  | with_reducible refine p_len ?_ | with_reducible refine p_int1 ?_ | with_reducible refine p_abs ?_ | with_reducible refine p_min2 ?_ | with_reducible refine p_max2 ?_ | with_reducible refine p_isi ?_ | with_reducible refine p_neg ?_
  | with_reducible refine p_andV ?_ | with_reducible refine p_orV ?_ | with_reducible refine p_notV ?_ | with_reducible refine p_chain ?_ | with_reducible refine p_if ?_
  | with_reducible refine t_test ?_ | with_reducible refine t_B ?_ | with_reducible refine t_not ?_ | with_reducible refine t_and ?_ | with_reducible refine t_or ?_ | with_reducible refine t_tr ?_
  | with_reducible refine p_append ?_ | with_reducible refine p_pop ?_ | with_reducible refine p_popAt ?_ | with_reducible refine p_reverse ?_ | with_reducible refine p_insert ?_
  | with_reducible refine p_lstZ ?_
  | with_reducible refine n_lst ?_ | with_reducible refine n_list ?_ | with_reducible refine n_slice ?_ | with_reducible refine o_none ?_ | with_reducible refine o_some ?_
  | ((refine' ⟨_, rfl, ?hl, ?_⟩); (case hl => first | decide | (simp only [List.length_map, List.length_cons, List.length_nil]; omega)))
  | refine ⟨_, rfl, ?_⟩
  | ((refine' ⟨_, _, rfl, IxO.t ?hx, ?_⟩); (case hx => rfl))
  | refine Or.inl ⟨_, rfl, ?_⟩
  | refine Or.inr ⟨_, rfl, ?_⟩
  | refine ⟨_, _, rfl, rfl, ?_⟩
  | ((refine ⟨_, LenO.l (SqO.z), ?_⟩)) | ((refine' ⟨_, LenO.l (SqO.r ?hl), ?_⟩); (case hl => rfl)) | ((refine ⟨_, LenO.t, ?_⟩)))
local macro_rules | `(tactic| walk_at "zp") => `(tactic| ((walk_at "z1"); (try walk_at "zp")))
local macro_rules | `(tactic| walk_at "zw") => `(tactic| first
  | ((with_reducible refine w_seq ?_); walk_at "zw")
  | ((with_reducible refine w_asgP ?_); (try walk_at "zp"); (try ((show W _ _ _ _ _); (try dsimp only [List.set]); (try walk_at "zw"))))
  | ((with_reducible refine w_ifP ?_); (try walk_at "zp"); (try first | refine ⟨imp_t ?_, imp_f ?_⟩ | refine ⟨imp_nt ?_, imp_nf ?_⟩))
  | ((with_reducible refine w_retP ?_); (try walk_at "zp"))
  | ((with_reducible refine w_dropP ?_); (try walk_at "zp"); (try ((show W _ _ _ _ _); (try walk_at "zw"))))
  | ((with_reducible refine w_next ?_); (try ((show W _ _ _ _ _); (try walk_at "zw")))))
local macro_rules | `(tactic| walk_at "zin") => `(tactic| dsimp only [List.map, List.length, List.replicate, HAdd.hAdd, Add.add, Nat.add, HSub.hSub, Sub.sub, Nat.sub, Nat.pred, HAppend.hAppend, Append.append, List.append])
local macro_rules | `(tactic| walk_at "zset") => `(tactic| dsimp only [List.set])
def top (i : Nat) : Stmt := PySem.Challenge.pw_selfloom_k07_edits.main.body.getD i (.Pass ⟨0, 0, 0, 0⟩)
abbrev s_check_edit : Stmt := top 4
abbrev s_applied : Stmt := top 5
abbrev s_inverse_of : Stmt := top 6
abbrev s_moved : Stmt := top 7
abbrev s_difference : Stmt := top 8
abbrev s_joined : Stmt := top 9
abbrev s__law_state : Stmt := top 11
abbrev s__law_draw : Stmt := top 12
abbrev s__law_pick : Stmt := top 13
abbrev s__law_text : Stmt := top 14
abbrev s__law_edit : Stmt := top 15
abbrev s__law_refused : Stmt := top 16
abbrev s__law_unjoined : Stmt := top 17
abbrev s__law_after : Stmt := top 18
abbrev s__law_common : Stmt := top 19
abbrev s_law : Stmt := top 20
structure Cn (K : PySem.W.Frag) (mg : Str → Option Value) (c_ScribeError c_EditError : Addr) : Prop where
  x_ScribeError : ExK K mg "ScribeError" c_ScribeError
  e_ScribeError : ExcC K c_ScribeError
  x_EditError : ExK K mg "EditError" c_EditError
  e_EditError : ExcC K c_EditError
  m_ScribeError_EditError : PySem.W.exmOne K (.ref c_ScribeError) (.ref c_EditError) = some false
  m_EditError_EditError : PySem.W.exmOne K (.ref c_EditError) (.ref c_EditError) = some true
  i_ScribeError_ScribeError : PySem.W.kitOne K (.ref c_ScribeError) (.ref c_ScribeError) = some true
  i_EditError_ScribeError : PySem.W.kitOne K (.ref c_EditError) (.ref c_ScribeError) = some true
  z : True := trivial
section
open PyProof.Rows
variable {P : Program} {w : World} {K : PySem.W.Frag} {mg : Str → Option Value} {base : Heap}
theorem sc_check_edit : FnScope ["text", "edit"] ["text", "edit"] (defScope s_check_edit) := ⟨rfl, rfl, rfl, by decide +kernel, rfl, by decide +kernel, by decide +kernel⟩
theorem sc_applied : FnScope ["text", "edit"] ["text", "edit"] (defScope s_applied) := ⟨rfl, rfl, rfl, by decide +kernel, rfl, by decide +kernel, by decide +kernel⟩
theorem sc_inverse_of : FnScope ["text", "edit"] ["text", "edit"] (defScope s_inverse_of) := ⟨rfl, rfl, rfl, by decide +kernel, rfl, by decide +kernel, by decide +kernel⟩
theorem sc_moved : FnScope ["edit", "position", "right"] ["edit", "position", "right"] (defScope s_moved) := ⟨rfl, rfl, rfl, by decide +kernel, rfl, by decide +kernel, by decide +kernel⟩
theorem sc_difference : FnScope ["first", "second", "begin", "end"] ["first", "second"] (defScope s_difference) := ⟨rfl, rfl, rfl, by decide +kernel, rfl, by decide +kernel, by decide +kernel⟩
theorem sc_joined : FnScope ["text", "first", "second", "middle", "start", "end", "new"] ["text", "first", "second"] (defScope s_joined) := ⟨rfl, rfl, rfl, by decide +kernel, rfl, by decide +kernel, by decide +kernel⟩
theorem sc__law_state : FnScope ["script", "seed", "cell"] ["script"] (defScope s__law_state) := ⟨rfl, rfl, rfl, by decide +kernel, rfl, by decide +kernel, by decide +kernel⟩
theorem sc__law_draw : FnScope ["state", "many", "cells", "mixed", "value"] ["state", "many"] (defScope s__law_draw) := ⟨rfl, rfl, rfl, by decide +kernel, rfl, by decide +kernel, by decide +kernel⟩
theorem sc__law_pick : FnScope ["state", "row"] ["state", "row"] (defScope s__law_pick) := ⟨rfl, rfl, rfl, by decide +kernel, rfl, by decide +kernel, by decide +kernel⟩
theorem sc__law_text : FnScope ["state", "longest", "k"] ["state", "longest"] (defScope s__law_text) := ⟨rfl, rfl, rfl, by decide +kernel, rfl, by decide +kernel, by decide +kernel⟩
theorem sc__law_edit : FnScope ["state", "text", "at"] ["state", "text"] (defScope s__law_edit) := ⟨rfl, rfl, rfl, by decide +kernel, rfl, by decide +kernel, by decide +kernel⟩
theorem sc__law_refused : FnScope ["text", "edit", "way", "e"] ["text", "edit", "way"] (defScope s__law_refused) := ⟨rfl, rfl, rfl, by decide +kernel, rfl, by decide +kernel, by decide +kernel⟩
theorem sc__law_unjoined : FnScope ["text", "first", "second"] ["text", "first", "second"] (defScope s__law_unjoined) := ⟨rfl, rfl, rfl, by decide +kernel, rfl, by decide +kernel, by decide +kernel⟩
theorem sc__law_after : FnScope ["text", "edit"] ["text", "edit"] (defScope s__law_after) := ⟨rfl, rfl, rfl, by decide +kernel, rfl, by decide +kernel, by decide +kernel⟩
theorem sc__law_common : FnScope ["first", "second", "k"] ["first", "second"] (defScope s__law_common) := ⟨rfl, rfl, rfl, by decide +kernel, rfl, by decide +kernel, by decide +kernel⟩
theorem sc_law : FnScope ["script", "state", "text", "edit", "middle", "second", "last", "bad", "worse", "one", "start", "end", "told", "begin", "tail", "place", "right", "due"] ["script"] (defScope s_law) := ⟨rfl, rfl, rfl, by decide +kernel, rfl, by decide +kernel, by decide +kernel⟩
/-- what the body of check_edit does, and that it does -/
def t_check_edit (K : PySem.W.Frag) (c_EditError : Addr)  (Wx : WX) : TS :=
  (tIfS (tOr (tTest (tOp rLtU (tOp (rIx K) (tVar 1) (tC (.int 0))) (tC (.int 0)))) (tOr (tTest (tOp rLtU (tOp (rIx K) (tVar 1) (tC (.int 1))) (tC (.int 0)))) (tTest (tOp rGtI (tOp (rAddU K) (tOp (rIx K) (tVar 1) (tC (.int 0))) (tOp (rIx K) (tVar 1) (tC (.int 1)))) (tCB (rLenU K) (tCons (tVar 0) tNil))))))
          (tRaiseN Wx c_EditError)
          tNext)
theorem d_check_edit {c_ScribeError c_EditError : Addr} (bn : Bn mg) (C : Cn K mg c_ScribeError c_EditError) {k : Nat} {f : Addr} {cdv : Value} {A : Around} {outer : List Env} {s : Shared} {H : Hp} {E : XK} (hr : Room k (A.deeper (PyProof.Rows.envOfC "check_edit" (defScope s_check_edit) s.heap.objs.size f cdv)))
    {Wx : WX} (tk : Takes (cxOf (L2.CX P w) P w K mg base ["text", "edit"] "check_edit" (defScope s_check_edit) f cdv A outer s H E) Wx)
    : PSs (cxOf (L2.CX P w) P w K mg base ["text", "edit"] "check_edit" (defScope s_check_edit) f cdv A outer s H E) (defBody s_check_edit) (t_check_edit K c_EditError Wx) :=
  (pss_one (ps_if (PW.pt (pw_or (pt_cmpR op_ltU (pe_ix ix_seq (pv 1) pe_int (fun _ _ => rfl)) pe_int (nomark _)) (pw_or (pt_cmpR op_ltU (pe_ix ix_seq (pv 1) pe_int (fun _ _ => rfl)) pe_int (nomark _)) (pw_or1 (pt_cmpR op_gt (pe_op op_addU (pe_ix ix_seq (pv 1) pe_int (fun _ _ => rfl)) (pe_ix ix_seq (pv 1) pe_int (fun _ _ => rfl))) (pe_callB call_lenU (by rfl) bn.b_len boot_len (pa_cons (pv 0) pa_nil)) (nomark _))))))
          (pss_one (ps_raiseN rfl tk C.x_EditError rfl))
          pss_nil))
/-- what the body of applied does, and that it does -/
def t_applied (K : PySem.W.Frag) (F_check_edit : DSp) (Wx : WX) : TS :=
  (tSeq (tDrop (tCallX (spD K 2 F_check_edit) Wx (tCons (tVar 0) (tCons (tVar 1) tNil))))
      (tRet (tOp (rAddU K) (tOp (rAddU K) (tSl (rSlU K) (tVar 0) tNoPart (tPart (tOp (rIx K) (tVar 1) (tC (.int 0))))) (tOp (rIx K) (tVar 1) (tC (.int 2)))) (tSl (rSlU K) (tVar 0) (tPart (tOp (rAddU K) (tOp (rIx K) (tVar 1) (tC (.int 0))) (tOp (rIx K) (tVar 1) (tC (.int 1))))) tNoPart))))
theorem d_applied {c_ScribeError c_EditError : Addr} (bn : Bn mg) (C : Cn K mg c_ScribeError c_EditError) {k : Nat} {f : Addr} {cdv : Value} {A : Around} {outer : List Env} {s : Shared} {H : Hp} {E : XK} (hr : Room k (A.deeper (PyProof.Rows.envOfC "applied" (defScope s_applied) s.heap.objs.size f cdv)))
    {k_check_edit : Nat} {F_check_edit : DSp} (h_check_edit : Has P w K mg base (L2.CX P w) k_check_edit "check_edit" ["text", "edit"] F_check_edit) (l_check_edit : k_check_edit ≤ k)
    {Wx : WX} (tk : Takes (cxOf (L2.CX P w) P w K mg base ["text", "edit"] "applied" (defScope s_applied) f cdv A outer s H E) Wx)
    : PSs (cxOf (L2.CX P w) P w K mg base ["text", "edit"] "applied" (defScope s_applied) f cdv A outer s H E) (defBody s_applied) (t_applied K F_check_edit Wx) :=
  (pss_cons (ps_expr (pe_hasX h_check_edit (hr.mono (by omega)) tk rfl (pa_cons (pv 0) (pa_cons (pv 1) pa_nil)) (by decide)))
      (pss_one (ps_ret (pe_op op_addU (pe_op op_addU (pe_slice sl_U (pv 0) po_none (po_some (pe_ix ix_seq (pv 1) pe_int (fun _ _ => rfl)))) (pe_ix ix_seq (pv 1) pe_int (fun _ _ => rfl))) (pe_slice sl_U (pv 0) (po_some (pe_op op_addU (pe_ix ix_seq (pv 1) pe_int (fun _ _ => rfl)) (pe_ix ix_seq (pv 1) pe_int (fun _ _ => rfl)))) po_none)))))
/-- what the body of inverse_of does, and that it does -/
def t_inverse_of (K : PySem.W.Frag) (F_check_edit : DSp) (Wx : WX) : TS :=
  (tSeq (tDrop (tCallX (spD K 2 F_check_edit) Wx (tCons (tVar 0) (tCons (tVar 1) tNil))))
      (tRet (tTup (tCons (tOp (rIx K) (tVar 1) (tC (.int 0))) (tCons (tCB (rLenU K) (tCons (tOp (rIx K) (tVar 1) (tC (.int 2))) tNil)) (tCons (tSl (rSlU K) (tVar 0) (tPart (tOp (rIx K) (tVar 1) (tC (.int 0)))) (tPart (tOp (rAddU K) (tOp (rIx K) (tVar 1) (tC (.int 0))) (tOp (rIx K) (tVar 1) (tC (.int 1)))))) tNil))))))
theorem d_inverse_of {c_ScribeError c_EditError : Addr} (bn : Bn mg) (C : Cn K mg c_ScribeError c_EditError) {k : Nat} {f : Addr} {cdv : Value} {A : Around} {outer : List Env} {s : Shared} {H : Hp} {E : XK} (hr : Room k (A.deeper (PyProof.Rows.envOfC "inverse_of" (defScope s_inverse_of) s.heap.objs.size f cdv)))
    {k_check_edit : Nat} {F_check_edit : DSp} (h_check_edit : Has P w K mg base (L2.CX P w) k_check_edit "check_edit" ["text", "edit"] F_check_edit) (l_check_edit : k_check_edit ≤ k)
    {Wx : WX} (tk : Takes (cxOf (L2.CX P w) P w K mg base ["text", "edit"] "inverse_of" (defScope s_inverse_of) f cdv A outer s H E) Wx)
    : PSs (cxOf (L2.CX P w) P w K mg base ["text", "edit"] "inverse_of" (defScope s_inverse_of) f cdv A outer s H E) (defBody s_inverse_of) (t_inverse_of K F_check_edit Wx) :=
  (pss_cons (ps_expr (pe_hasX h_check_edit (hr.mono (by omega)) tk rfl (pa_cons (pv 0) (pa_cons (pv 1) pa_nil)) (by decide)))
      (pss_one (ps_ret (pe_tup (pa_cons (pe_ix ix_seq (pv 1) pe_int (fun _ _ => rfl)) (pa_cons (pe_callB call_lenU (by rfl) bn.b_len boot_len (pa_cons (pe_ix ix_seq (pv 1) pe_int (fun _ _ => rfl)) pa_nil)) (pa_cons (pe_slice sl_U (pv 0) (po_some (pe_ix ix_seq (pv 1) pe_int (fun _ _ => rfl))) (po_some (pe_op op_addU (pe_ix ix_seq (pv 1) pe_int (fun _ _ => rfl)) (pe_ix ix_seq (pv 1) pe_int (fun _ _ => rfl))))) pa_nil)))))))
/-- what the body of moved does, and that it does -/
def t_moved (K : PySem.W.Frag)  : TS :=
  (tSeq (tIfS (tOr (tTest (tOp rLtU (tVar 1) (tOp (rIx K) (tVar 0) (tC (.int 0))))) (tAnd (tTest (tOp (rEqU K) (tVar 1) (tOp (rIx K) (tVar 0) (tC (.int 0))))) (tOr (tTest (tOp rGtI (tOp (rIx K) (tVar 0) (tC (.int 1))) (tC (.int 0)))) (tNot (tTr K (tVar 2))))))
          (tRet (tVar 1))
          tNext)
      (tSeq (tIfS (tTest (tOp rGeI (tVar 1) (tOp (rAddU K) (tOp (rIx K) (tVar 0) (tC (.int 0))) (tOp (rIx K) (tVar 0) (tC (.int 1))))))
          (tRet (tOp rSubI (tOp (rAddU K) (tVar 1) (tCB (rLenU K) (tCons (tOp (rIx K) (tVar 0) (tC (.int 2))) tNil))) (tOp (rIx K) (tVar 0) (tC (.int 1)))))
          tNext)
      (tRet (tIf (tTr K (tVar 2)) (tOp (rAddU K) (tOp (rIx K) (tVar 0) (tC (.int 0))) (tCB (rLenU K) (tCons (tOp (rIx K) (tVar 0) (tC (.int 2))) tNil))) (tOp (rIx K) (tVar 0) (tC (.int 0)))))))
theorem d_moved {c_ScribeError c_EditError : Addr} (bn : Bn mg) (C : Cn K mg c_ScribeError c_EditError) {k : Nat} {f : Addr} {cdv : Value} {A : Around} {outer : List Env} {s : Shared} {H : Hp} {E : XK} (hr : Room k (A.deeper (PyProof.Rows.envOfC "moved" (defScope s_moved) s.heap.objs.size f cdv)))
    : PSs (cxOf CX0 P w K mg base ["edit", "position", "right"] "moved" (defScope s_moved) f cdv A outer s H E).nox (defBody s_moved) (t_moved K) :=
  (pss_cons (ps_if (PW.pt (pw_or (pt_cmpR op_ltU (pv 1) (pe_ix ix_seq (pv 0) pe_int (fun _ _ => rfl)) (nomark _)) (pw_or1 (PW.pt (pw_and (pt_cmpR (op_eqU hr.units) (pv 1) (pe_ix ix_seq (pv 0) pe_int (fun _ _ => rfl)) (nomark _)) (pw_and1 (PW.pt (pw_or (pt_cmpR op_gt (pe_ix ix_seq (pv 0) pe_int (fun _ _ => rfl)) pe_int (nomark _)) (pw_or1 (pt_not (pt_tr (pv 2))))))))))))
          (pss_one (ps_ret (pv 1)))
          pss_nil)
      (pss_cons (ps_if (pt_cmpR op_ge (pv 1) (pe_op op_addU (pe_ix ix_seq (pv 0) pe_int (fun _ _ => rfl)) (pe_ix ix_seq (pv 0) pe_int (fun _ _ => rfl))) (nomark _))
          (pss_one (ps_ret (pe_op op_sub (pe_op op_addU (pv 1) (pe_callB call_lenU (by rfl) bn.b_len boot_len (pa_cons (pe_ix ix_seq (pv 0) pe_int (fun _ _ => rfl)) pa_nil))) (pe_ix ix_seq (pv 0) pe_int (fun _ _ => rfl)))))
          pss_nil)
      (pss_one (ps_ret (pe_ifExp (pt_tr (pv 2)) (pe_op op_addU (pe_ix ix_seq (pv 0) pe_int (fun _ _ => rfl)) (pe_callB call_lenU (by rfl) bn.b_len boot_len (pa_cons (pe_ix ix_seq (pv 0) pe_int (fun _ _ => rfl)) pa_nil))) (pe_ix ix_seq (pv 0) pe_int (fun _ _ => rfl)))))))
/-- what the body of difference does, and that it does -/
def t_difference (K : PySem.W.Frag)  : TS :=
  (tSeq (tAsg (tC (.int 0)) (gName 2))
      (tSeq (tWhile (tAnd (tTest (tOp rLtU (tVar 2) (tCB rMin2 (tCons (tCB (rLenU K) (tCons (tVar 0) tNil)) (tCons (tCB (rLenU K) (tCons (tVar 1) tNil)) tNil))))) (tTest (tOp (rEqU K) (tOp (rIx K) (tVar 0) (tVar 2)) (tOp (rIx K) (tVar 1) (tVar 2)))))
          (tAsg (tOp (rAddU K) (tVar 2) (tC (.int 1))) (gName 2)))
      (tSeq (tAsg (tC (.int 0)) (gName 3))
      (tSeq (tWhile (tAnd (tTest (tOp rLtU (tVar 3) (tOp rSubI (tCB rMin2 (tCons (tCB (rLenU K) (tCons (tVar 0) tNil)) (tCons (tCB (rLenU K) (tCons (tVar 1) tNil)) tNil))) (tVar 2)))) (tTest (tOp (rEqU K) (tOp (rIx K) (tVar 0) (tOp rSubI (tOp rSubI (tCB (rLenU K) (tCons (tVar 0) tNil)) (tC (.int 1))) (tVar 3))) (tOp (rIx K) (tVar 1) (tOp rSubI (tOp rSubI (tCB (rLenU K) (tCons (tVar 1) tNil)) (tC (.int 1))) (tVar 3))))))
          (tAsg (tOp (rAddU K) (tVar 3) (tC (.int 1))) (gName 3)))
      (tRet (tTup (tCons (tVar 2) (tCons (tOp rSubI (tOp rSubI (tCB (rLenU K) (tCons (tVar 0) tNil)) (tVar 2)) (tVar 3)) (tCons (tSl (rSlU K) (tVar 1) (tPart (tVar 2)) (tPart (tOp rSubI (tCB (rLenU K) (tCons (tVar 1) tNil)) (tVar 3)))) tNil)))))))))
theorem d_difference {c_ScribeError c_EditError : Addr} (bn : Bn mg) (C : Cn K mg c_ScribeError c_EditError) {k : Nat} {f : Addr} {cdv : Value} {A : Around} {outer : List Env} {s : Shared} {H : Hp} {E : XK} (hr : Room k (A.deeper (PyProof.Rows.envOfC "difference" (defScope s_difference) s.heap.objs.size f cdv)))
    : PSs (cxOf CX0 P w K mg base ["first", "second", "begin", "end"] "difference" (defScope s_difference) f cdv A outer s H E).nox (defBody s_difference) (t_difference K) :=
  (pss_cons (ps_set (i := 2) sc_difference.nd rfl (by first | exact Or.inl rfl | exact Or.inr rfl) pe_int)
      (pss_cons (ps_while PassesOwn.never (PW.pt (pw_and (pt_cmpR op_ltU (pv 2) (pe_callB (call_min2 rfl) (by rfl) bn.b_min boot_min (pa_cons (pe_callB call_lenU (by rfl) bn.b_len boot_len (pa_cons (pv 0) pa_nil)) (pa_cons (pe_callB call_lenU (by rfl) bn.b_len boot_len (pa_cons (pv 1) pa_nil)) pa_nil))) (nomark _)) (pw_and1 (pt_cmpR (op_eqU hr.units) (pe_ix ix_seq (pv 0) (pv 2) (fun _ _ => rfl)) (pe_ix ix_seq (pv 1) (pv 2) (fun _ _ => rfl)) (nomark _)))))
          (pss_one (ps_set (i := 2) sc_difference.nd rfl (by first | exact Or.inl rfl | exact Or.inr rfl) (pe_op op_addU (pv 2) pe_int))))
      (pss_cons (ps_set (i := 3) sc_difference.nd rfl (by first | exact Or.inl rfl | exact Or.inr rfl) pe_int)
      (pss_cons (ps_while PassesOwn.never (PW.pt (pw_and (pt_cmpR op_ltU (pv 3) (pe_op op_sub (pe_callB (call_min2 rfl) (by rfl) bn.b_min boot_min (pa_cons (pe_callB call_lenU (by rfl) bn.b_len boot_len (pa_cons (pv 0) pa_nil)) (pa_cons (pe_callB call_lenU (by rfl) bn.b_len boot_len (pa_cons (pv 1) pa_nil)) pa_nil))) (pv 2)) (nomark _)) (pw_and1 (pt_cmpR (op_eqU hr.units) (pe_ix ix_seq (pv 0) (pe_op op_sub (pe_op op_sub (pe_callB call_lenU (by rfl) bn.b_len boot_len (pa_cons (pv 0) pa_nil)) pe_int) (pv 3)) (fun _ _ => rfl)) (pe_ix ix_seq (pv 1) (pe_op op_sub (pe_op op_sub (pe_callB call_lenU (by rfl) bn.b_len boot_len (pa_cons (pv 1) pa_nil)) pe_int) (pv 3)) (fun _ _ => rfl)) (nomark _)))))
          (pss_one (ps_set (i := 3) sc_difference.nd rfl (by first | exact Or.inl rfl | exact Or.inr rfl) (pe_op op_addU (pv 3) pe_int))))
      (pss_one (ps_ret (pe_tup (pa_cons (pv 2) (pa_cons (pe_op op_sub (pe_op op_sub (pe_callB call_lenU (by rfl) bn.b_len boot_len (pa_cons (pv 0) pa_nil)) (pv 2)) (pv 3)) (pa_cons (pe_slice sl_U (pv 1) (po_some (pv 2)) (po_some (pe_op op_sub (pe_callB call_lenU (by rfl) bn.b_len boot_len (pa_cons (pv 1) pa_nil)) (pv 3)))) pa_nil))))))))))
/-- what the body of joined does, and that it does -/
def t_joined (K : PySem.W.Frag) (F_applied : DSp) (F_check_edit : DSp) (Wx : WX) : TS :=
  (tSeq (tAsg (tCallX (spD K 2 F_applied) Wx (tCons (tVar 0) (tCons (tVar 1) tNil))) (gName 3))
      (tSeq (tDrop (tCallX (spD K 2 F_check_edit) Wx (tCons (tVar 3) (tCons (tVar 2) tNil))))
      (tSeq (tAsg (tCB rMin2 (tCons (tOp (rIx K) (tVar 1) (tC (.int 0))) (tCons (tOp (rIx K) (tVar 2) (tC (.int 0))) tNil))) (gName 4))
      (tSeq (tAsg (tCB rMax2 (tCons (tOp (rAddU K) (tOp (rIx K) (tVar 1) (tC (.int 0))) (tCB (rLenU K) (tCons (tOp (rIx K) (tVar 1) (tC (.int 2))) tNil))) (tCons (tOp (rAddU K) (tOp (rIx K) (tVar 2) (tC (.int 0))) (tOp (rIx K) (tVar 2) (tC (.int 1)))) tNil))) (gName 5))
      (tSeq (tAsg (tOp (rAddU K) (tOp (rAddU K) (tSl (rSlU K) (tVar 3) (tPart (tVar 4)) (tPart (tOp (rIx K) (tVar 2) (tC (.int 0))))) (tOp (rIx K) (tVar 2) (tC (.int 2)))) (tSl (rSlU K) (tVar 3) (tPart (tOp (rAddU K) (tOp (rIx K) (tVar 2) (tC (.int 0))) (tOp (rIx K) (tVar 2) (tC (.int 1))))) (tPart (tVar 5)))) (gName 6))
      (tRet (tTup (tCons (tVar 4) (tCons (tOp rSubI (tOp (rAddU K) (tOp rSubI (tVar 5) (tCB (rLenU K) (tCons (tOp (rIx K) (tVar 1) (tC (.int 2))) tNil))) (tOp (rIx K) (tVar 1) (tC (.int 1)))) (tVar 4)) (tCons (tVar 6) tNil))))))))))
theorem d_joined {c_ScribeError c_EditError : Addr} (bn : Bn mg) (C : Cn K mg c_ScribeError c_EditError) {k : Nat} {f : Addr} {cdv : Value} {A : Around} {outer : List Env} {s : Shared} {H : Hp} {E : XK} (hr : Room k (A.deeper (PyProof.Rows.envOfC "joined" (defScope s_joined) s.heap.objs.size f cdv)))
    {k_applied : Nat} {F_applied : DSp} (h_applied : Has P w K mg base (L2.CX P w) k_applied "applied" ["text", "edit"] F_applied) (l_applied : k_applied ≤ k) {k_check_edit : Nat} {F_check_edit : DSp} (h_check_edit : Has P w K mg base (L2.CX P w) k_check_edit "check_edit" ["text", "edit"] F_check_edit) (l_check_edit : k_check_edit ≤ k)
    {Wx : WX} (tk : Takes (cxOf (L2.CX P w) P w K mg base ["text", "first", "second", "middle", "start", "end", "new"] "joined" (defScope s_joined) f cdv A outer s H E) Wx)
    : PSs (cxOf (L2.CX P w) P w K mg base ["text", "first", "second", "middle", "start", "end", "new"] "joined" (defScope s_joined) f cdv A outer s H E) (defBody s_joined) (t_joined K F_applied F_check_edit Wx) :=
  (pss_cons (ps_set (i := 3) sc_joined.nd rfl (by first | exact Or.inl rfl | exact Or.inr rfl) (pe_hasX h_applied (hr.mono (by omega)) tk rfl (pa_cons (pv 0) (pa_cons (pv 1) pa_nil)) (by decide)))
      (pss_cons (ps_expr (pe_hasX h_check_edit (hr.mono (by omega)) tk rfl (pa_cons (pv 3) (pa_cons (pv 2) pa_nil)) (by decide)))
      (pss_cons (ps_set (i := 4) sc_joined.nd rfl (by first | exact Or.inl rfl | exact Or.inr rfl) (pe_callB (call_min2 rfl) (by rfl) bn.b_min boot_min (pa_cons (pe_ix ix_seq (pv 1) pe_int (fun _ _ => rfl)) (pa_cons (pe_ix ix_seq (pv 2) pe_int (fun _ _ => rfl)) pa_nil))))
      (pss_cons (ps_set (i := 5) sc_joined.nd rfl (by first | exact Or.inl rfl | exact Or.inr rfl) (pe_callB (call_max2 rfl) (by rfl) bn.b_max boot_max (pa_cons (pe_op op_addU (pe_ix ix_seq (pv 1) pe_int (fun _ _ => rfl)) (pe_callB call_lenU (by rfl) bn.b_len boot_len (pa_cons (pe_ix ix_seq (pv 1) pe_int (fun _ _ => rfl)) pa_nil))) (pa_cons (pe_op op_addU (pe_ix ix_seq (pv 2) pe_int (fun _ _ => rfl)) (pe_ix ix_seq (pv 2) pe_int (fun _ _ => rfl))) pa_nil))))
      (pss_cons (ps_set (i := 6) sc_joined.nd rfl (by first | exact Or.inl rfl | exact Or.inr rfl) (pe_op op_addU (pe_op op_addU (pe_slice sl_U (pv 3) (po_some (pv 4)) (po_some (pe_ix ix_seq (pv 2) pe_int (fun _ _ => rfl)))) (pe_ix ix_seq (pv 2) pe_int (fun _ _ => rfl))) (pe_slice sl_U (pv 3) (po_some (pe_op op_addU (pe_ix ix_seq (pv 2) pe_int (fun _ _ => rfl)) (pe_ix ix_seq (pv 2) pe_int (fun _ _ => rfl)))) (po_some (pv 5)))))
      (pss_one (ps_ret (pe_tup (pa_cons (pv 4) (pa_cons (pe_op op_sub (pe_op op_addU (pe_op op_sub (pv 5) (pe_callB call_lenU (by rfl) bn.b_len boot_len (pa_cons (pe_ix ix_seq (pv 1) pe_int (fun _ _ => rfl)) pa_nil))) (pe_ix ix_seq (pv 1) pe_int (fun _ _ => rfl))) (pv 4)) (pa_cons (pv 6) pa_nil)))))))))))
/-- what the body of _law_state does, and that it does -/
def t__law_state (K : PySem.W.Frag)  : TS :=
  (tSeq (tAsg (tC (.int 7)) (gName 1))
      (tSeq (tFor (iList K (tVar 0)) (gName 2)
          (tAsg (tOp rModI (tCB rInt (tCons (tOp (rAddU K) (tOp (rMulU K) (tVar 1) (tC (.int 31))) (tVar 2)) tNil)) (tC (.int 1000003))) (gName 1)))
      (tRet (tLst (tCons (tLc (iList K (tVar 0)) (gName 2) tYes (tCB rAbs (tCons (tCB rInt (tCons (tVar 2) tNil)) tNil)) [2]) (tCons (tOp (rAddU K) (tVar 1) (tC (.int 1))) tNil))))))
theorem d__law_state {c_ScribeError c_EditError : Addr} (bn : Bn mg) (C : Cn K mg c_ScribeError c_EditError) {k : Nat} {f : Addr} {cdv : Value} {A : Around} {outer : List Env} {s : Shared} {H : Hp} {E : XK} (hr : Room k (A.deeper (PyProof.Rows.envOfC "_law_state" (defScope s__law_state) s.heap.objs.size f cdv)))
    : PSs (cxOf CX0 P w K mg base ["script", "seed", "cell"] "_law_state" (defScope s__law_state) f cdv A outer s H E).nox (defBody s__law_state) (t__law_state K) :=
  (pss_cons (ps_set (i := 1) sc__law_state.nd rfl (by first | exact Or.inl rfl | exact Or.inr rfl) pe_int)
      (pss_cons (ps_for PassesOwn.never rfl (pi_list (pv 0)) (pg_name (i := 2) sc__law_state.nd rfl (by first | exact Or.inl rfl | exact Or.inr rfl))
          (pss_one (ps_set (i := 1) sc__law_state.nd rfl (by first | exact Or.inl rfl | exact Or.inr rfl) (pe_op op_mod (pe_callTy call_int1 (by rfl) bn.b_int boot_int (pa_cons (pe_op op_addU (pe_op op_mulU (pv 1) pe_int) (pv 2)) pa_nil)) pe_int))))
      (pss_one (ps_ret (pe_lst (pa_cons (pe_lc (own := [("cell", 2)]) (g := (gName 2)) (tt := tYes) rfl sc__law_state.nd (pi_list (pv 0)) (blkOk_by (own := [("cell", 2)]) (N := ["script", "seed", "cell"]) (sc := defScope s__law_state) (by decide +kernel)) (fun _ _ _ _ _ => (pg_name (i := 2) sc__law_state.nd rfl (by first | exact Or.inl rfl | exact Or.inr rfl))) (fun _ _ _ _ _ => pts_nil) (fun _ _ _ _ _ => (pe_callB call_abs (by rfl) bn.b_abs boot_abs (pa_cons (pe_callTy call_int1 (by rfl) bn.b_int boot_int (pa_cons (pv 2) pa_nil)) pa_nil)))) (pa_cons (pe_op op_addU (pv 1) pe_int) pa_nil)))))))
/-- what the body of _law_draw does, and that it does -/
def t__law_draw (K : PySem.W.Frag)  : TS :=
  (tSeq (tAsg (tOp (rIx K) (tVar 0) (tC (.int 0))) (gName 2))
      (tSeq (tWhile (tAnd (tTest (tOp rGtI (tCB (rLenU K) (tCons (tVar 2) tNil)) (tC (.int 0)))) (tTest (tOp (rEqU K) (tOp (rIx K) (tVar 2) (tC (.int 0))) (tC (.int 0)))))
          (tDrop (tBM K "list" rPopAt (tVar 2) (tCons (tC (.int 0)) tNil))))
      (tSeq (tIfS (tTest (tOp rGtI (tCB (rLenU K) (tCons (tVar 2) tNil)) (tC (.int 0))))
          (tSeq (tAsg (tOp (rIx K) (tVar 2) (tC (.int 0))) (gName 4))
          (tSeq (tAsg (tOp rDivI (tVar 4) (tVar 1)) (gSub (tVar 2) (tC (.int 0)) rSetL))
          (tRet (tOp rModI (tCB rInt (tCons (tVar 4) tNil)) (tVar 1)))))
          tNext)
      (tSeq (tAsg (tOp rModI (tCB rInt (tCons (tOp (rAddU K) (tOp (rMulU K) (tOp (rIx K) (tVar 0) (tC (.int 1))) (tC (.int 48271))) (tC (.int 12345))) tNil)) (tC (.int 2147483647))) (gName 3))
      (tSeq (tAsg (tVar 3) (gSub (tVar 0) (tC (.int 1)) rSetL))
      (tRet (tOp rModI (tCB rInt (tCons (tOp rDivI (tVar 3) (tC (.int 64))) tNil)) (tVar 1))))))))
theorem d__law_draw {c_ScribeError c_EditError : Addr} (bn : Bn mg) (C : Cn K mg c_ScribeError c_EditError) {k : Nat} {f : Addr} {cdv : Value} {A : Around} {outer : List Env} {s : Shared} {H : Hp} {E : XK} (hr : Room k (A.deeper (PyProof.Rows.envOfC "_law_draw" (defScope s__law_draw) s.heap.objs.size f cdv)))
    : PSs (cxOf CX0 P w K mg base ["state", "many", "cells", "mixed", "value"] "_law_draw" (defScope s__law_draw) f cdv A outer s H E).nox (defBody s__law_draw) (t__law_draw K) :=
  (pss_cons (ps_set (i := 2) sc__law_draw.nd rfl (by first | exact Or.inl rfl | exact Or.inr rfl) (pe_ix ix_seq (pv 0) pe_int (fun _ _ => rfl)))
      (pss_cons (ps_while PassesOwn.never (PW.pt (pw_and (pt_cmpR op_gt (pe_callB call_lenU (by rfl) bn.b_len boot_len (pa_cons (pv 2) pa_nil)) pe_int (nomark _)) (pw_and1 (pt_cmpR (op_eqU hr.units) (pe_ix ix_seq (pv 2) pe_int (fun _ _ => rfl)) pe_int (nomark _)))))
          (pss_one (ps_expr (pe_bm PySem.F.plainAttrs_list PySem.F.slot_list_pop PySem.F.type_list_pop mt_popAt (pv 2) (pa_cons pe_int pa_nil)))))
      (pss_cons (ps_if (pt_cmpR op_gt (pe_callB call_lenU (by rfl) bn.b_len boot_len (pa_cons (pv 2) pa_nil)) pe_int (nomark _))
          (pss_cons (ps_set (i := 4) sc__law_draw.nd rfl (by first | exact Or.inl rfl | exact Or.inr rfl) (pe_ix ix_seq (pv 2) pe_int (fun _ _ => rfl)))
          (pss_cons (ps_asg (pe_op op_fdivW (pv 4) (pv 1)) (pg_sub (pv 2) pe_int set_list))
          (pss_one (ps_ret (pe_op op_mod (pe_callTy call_int1 (by rfl) bn.b_int boot_int (pa_cons (pv 4) pa_nil)) (pv 1))))))
          pss_nil)
      (pss_cons (ps_set (i := 3) sc__law_draw.nd rfl (by first | exact Or.inl rfl | exact Or.inr rfl) (pe_op op_mod (pe_callTy call_int1 (by rfl) bn.b_int boot_int (pa_cons (pe_op op_addU (pe_op op_mulU (pe_ix ix_seq (pv 0) pe_int (fun _ _ => rfl)) pe_int) pe_int) pa_nil)) pe_int))
      (pss_cons (ps_asg (pv 3) (pg_sub (pv 0) pe_int set_list))
      (pss_one (ps_ret (pe_op op_mod (pe_callTy call_int1 (by rfl) bn.b_int boot_int (pa_cons (pe_op op_fdivW (pv 3) pe_int) pa_nil)) (pv 1)))))))))
/-- what the body of _law_pick does, and that it does -/
def t__law_pick (K : PySem.W.Frag) (F__law_draw : DSp) : TS :=
  (tRet (tOp (rIx K) (tVar 1) (tCall (spD K 2 F__law_draw) [] E0 (tCons (tVar 0) (tCons (tCB (rLenU K) (tCons (tVar 1) tNil)) tNil)))))
theorem d__law_pick {c_ScribeError c_EditError : Addr} (bn : Bn mg) (C : Cn K mg c_ScribeError c_EditError) {k : Nat} {f : Addr} {cdv : Value} {A : Around} {outer : List Env} {s : Shared} {H : Hp} {E : XK} (hr : Room k (A.deeper (PyProof.Rows.envOfC "_law_pick" (defScope s__law_pick) s.heap.objs.size f cdv)))
    {k__law_draw : Nat} {F__law_draw : DSp} (h__law_draw : Has P w K mg base CX0 k__law_draw "_law_draw" ["state", "many"] F__law_draw) (l__law_draw : k__law_draw ≤ k)
    : PSs (cxOf CX0 P w K mg base ["state", "row"] "_law_pick" (defScope s__law_pick) f cdv A outer s H E).nox (defBody s__law_pick) (t__law_pick K F__law_draw) :=
  (pss_one (ps_ret (pe_ix ix_seq (pv 1) (pe_has h__law_draw (hr.mono (by omega)) pass0 rfl (pa_cons (pv 0) (pa_cons (pe_callB call_lenU (by rfl) bn.b_len boot_len (pa_cons (pv 1) pa_nil)) pa_nil)) (by decide)) (fun _ _ => rfl))))
/-- what the body of _law_text does, and that it does -/
def t__law_text (K : PySem.W.Frag) (F__law_pick : DSp) (F__law_draw : DSp) : TS :=
  (tRet (tM1 (rJoin K) (tC (.str "")) (tLc (iRng1 (tCons (tCall (spD K 2 F__law_draw) [] E0 (tCons (tVar 0) (tCons (tOp (rAddU K) (tVar 1) (tC (.int 1))) tNil))) tNil)) (gName 2) tYes (tCall (spD K 2 F__law_pick) [] E0 (tCons (tVar 0) (tCons (tLst (tCons (tC (.str "a")) (tCons (tC (.str "b")) (tCons (tC (.str "a")) (tCons (tC (.str "\n")) tNil))))) tNil))) [2])))
theorem d__law_text {c_ScribeError c_EditError : Addr} (bn : Bn mg) (C : Cn K mg c_ScribeError c_EditError) {k : Nat} {f : Addr} {cdv : Value} {A : Around} {outer : List Env} {s : Shared} {H : Hp} {E : XK} (hr : Room k (A.deeper (PyProof.Rows.envOfC "_law_text" (defScope s__law_text) s.heap.objs.size f cdv)))
    {k__law_pick : Nat} {F__law_pick : DSp} (h__law_pick : Has P w K mg base CX0 k__law_pick "_law_pick" ["state", "row"] F__law_pick) (l__law_pick : k__law_pick ≤ k) {k__law_draw : Nat} {F__law_draw : DSp} (h__law_draw : Has P w K mg base CX0 k__law_draw "_law_draw" ["state", "many"] F__law_draw) (l__law_draw : k__law_draw ≤ k)
    : PSs (cxOf CX0 P w K mg base ["state", "longest", "k"] "_law_text" (defScope s__law_text) f cdv A outer s H E).nox (defBody s__law_text) (t__law_text K F__law_pick F__law_draw) :=
  (pss_one (ps_ret (pe_join pe_str (pe_lc (own := [("k", 2)]) (g := (gName 2)) (tt := tYes) rfl sc__law_text.nd (pi_range1 rfl bn.b_range (pa_cons (pe_has h__law_draw (hr.mono (by omega)) pass0 rfl (pa_cons (pv 0) (pa_cons (pe_op op_addU (pv 1) pe_int) pa_nil)) (by decide)) pa_nil)) (blkOk_by (own := [("k", 2)]) (N := ["state", "longest", "k"]) (sc := defScope s__law_text) (by decide +kernel)) (fun _ _ _ _ _ => (pg_name (i := 2) sc__law_text.nd rfl (by first | exact Or.inl rfl | exact Or.inr rfl))) (fun _ _ _ _ _ => pts_nil) (fun _ _ _ _ _ => (pe_has h__law_pick (hr.mono (by omega)) pass0 rfl (pa_cons (pv 0) (pa_cons (pe_lst (pa_cons pe_str (pa_cons pe_str (pa_cons pe_str (pa_cons pe_str pa_nil))))) pa_nil)) (by decide)))))))
/-- what the body of _law_edit does, and that it does -/
def t__law_edit (K : PySem.W.Frag) (F__law_draw : DSp) (F__law_text : DSp) : TS :=
  (tSeq (tAsg (tCall (spD K 2 F__law_draw) [] E0 (tCons (tVar 0) (tCons (tOp (rAddU K) (tCB (rLenU K) (tCons (tVar 1) tNil)) (tC (.int 1))) tNil))) (gName 2))
      (tRet (tTup (tCons (tVar 2) (tCons (tCall (spD K 2 F__law_draw) [] E0 (tCons (tVar 0) (tCons (tOp (rAddU K) (tOp rSubI (tCB (rLenU K) (tCons (tVar 1) tNil)) (tVar 2)) (tC (.int 1))) tNil))) (tCons (tCall (spD K 2 F__law_text) [] E0 (tCons (tVar 0) (tCons (tC (.int 4)) tNil))) tNil))))))
theorem d__law_edit {c_ScribeError c_EditError : Addr} (bn : Bn mg) (C : Cn K mg c_ScribeError c_EditError) {k : Nat} {f : Addr} {cdv : Value} {A : Around} {outer : List Env} {s : Shared} {H : Hp} {E : XK} (hr : Room k (A.deeper (PyProof.Rows.envOfC "_law_edit" (defScope s__law_edit) s.heap.objs.size f cdv)))
    {k__law_draw : Nat} {F__law_draw : DSp} (h__law_draw : Has P w K mg base CX0 k__law_draw "_law_draw" ["state", "many"] F__law_draw) (l__law_draw : k__law_draw ≤ k) {k__law_text : Nat} {F__law_text : DSp} (h__law_text : Has P w K mg base CX0 k__law_text "_law_text" ["state", "longest"] F__law_text) (l__law_text : k__law_text ≤ k)
    : PSs (cxOf CX0 P w K mg base ["state", "text", "at"] "_law_edit" (defScope s__law_edit) f cdv A outer s H E).nox (defBody s__law_edit) (t__law_edit K F__law_draw F__law_text) :=
  (pss_cons (ps_set (i := 2) sc__law_edit.nd rfl (by first | exact Or.inl rfl | exact Or.inr rfl) (pe_has h__law_draw (hr.mono (by omega)) pass0 rfl (pa_cons (pv 0) (pa_cons (pe_op op_addU (pe_callB call_lenU (by rfl) bn.b_len boot_len (pa_cons (pv 1) pa_nil)) pe_int) pa_nil)) (by decide)))
      (pss_one (ps_ret (pe_tup (pa_cons (pv 2) (pa_cons (pe_has h__law_draw (hr.mono (by omega)) pass0 rfl (pa_cons (pv 0) (pa_cons (pe_op op_addU (pe_op op_sub (pe_callB call_lenU (by rfl) bn.b_len boot_len (pa_cons (pv 1) pa_nil)) (pv 2)) pe_int) pa_nil)) (by decide)) (pa_cons (pe_has h__law_text (hr.mono (by omega)) pass0 rfl (pa_cons (pv 0) (pa_cons pe_int pa_nil)) (by decide)) pa_nil)))))))
/-- what the body of _law_refused does, and that it does -/
def t__law_refused (K : PySem.W.Frag) (c_EditError c_ScribeError : Addr) (F_applied : DSp) (F_inverse_of : DSp) (F_joined : DSp) : TS :=
  (tSeq (tTryAs K c_EditError 3 (fun Wx =>
          (tIfS (tTest (tOp (rEqU K) (tVar 2) (tC (.int 0))))
              (tDrop (tCallX (spD K 2 F_applied) Wx (tCons (tVar 0) (tCons (tVar 1) tNil))))
              (tIfS (tTest (tOp (rEqU K) (tVar 2) (tC (.int 1))))
                  (tDrop (tCallX (spD K 2 F_inverse_of) Wx (tCons (tVar 0) (tCons (tVar 1) tNil))))
                  (tDrop (tCallX (spD K 3 F_joined) Wx (tCons (tVar 0) (tCons (tVar 1) (tCons (tTup (tCons (tC (.int 0)) (tCons (tC (.int 0)) (tCons (tC (.str "")) tNil)))) tNil)))))))) (fun ea cls dO =>
          (tRet (tCB (rIsX K cls dO ea) (tCons (tVar 3) (tCons (tC (.ref c_ScribeError)) tNil))))) WX0)
      (tRet (tC (.bl false))))
theorem d__law_refused {c_ScribeError c_EditError : Addr} (bn : Bn mg) (C : Cn K mg c_ScribeError c_EditError) {k : Nat} {f : Addr} {cdv : Value} {A : Around} {outer : List Env} {s : Shared} {H : Hp} {E : XK} (hr : Room k (A.deeper (PyProof.Rows.envOfC "_law_refused" (defScope s__law_refused) s.heap.objs.size f cdv)))
    {k_applied : Nat} {F_applied : DSp} (h_applied : Has P w K mg base (L2.CX P w) k_applied "applied" ["text", "edit"] F_applied) (l_applied : k_applied ≤ k) {k_inverse_of : Nat} {F_inverse_of : DSp} (h_inverse_of : Has P w K mg base (L2.CX P w) k_inverse_of "inverse_of" ["text", "edit"] F_inverse_of) (l_inverse_of : k_inverse_of ≤ k) {k_joined : Nat} {F_joined : DSp} (h_joined : Has P w K mg base (L2.CX P w) k_joined "joined" ["text", "first", "second"] F_joined) (l_joined : k_joined ≤ k)
    : PSs (cxOf CX0 P w K mg base ["text", "edit", "way", "e"] "_law_refused" (defScope s__law_refused) f cdv A outer s H E).nox (defBody s__law_refused) (t__law_refused K c_EditError c_ScribeError F_applied F_inverse_of F_joined) :=
  (pss_cons (ps_tryAs (i := 3) rfl rfl sc__law_refused.nd rfl rfl ⟨rfl, by decide, .inl C.x_EditError.g⟩ takes0 (fun Wx pn xe tk po =>
          (pss_one (ps_if (pt_cmpR (op_eqU hr.units) (pv 2) pe_int (nomark _))
              (pss_one (ps_expr (pe_hasX h_applied (hr.mono (by omega)) tk rfl (pa_cons (pv 0) (pa_cons (pv 1) pa_nil)) (by decide))))
              (pss_one (ps_if (pt_cmpR (op_eqU hr.units) (pv 2) pe_int (nomark _))
                  (pss_one (ps_expr (pe_hasX h_inverse_of (hr.mono (by omega)) tk rfl (pa_cons (pv 0) (pa_cons (pv 1) pa_nil)) (by decide))))
                  (pss_one (ps_expr (pe_hasX h_joined (hr.mono (by omega)) tk rfl (pa_cons (pv 0) (pa_cons (pv 1) (pa_cons (pe_tup (pa_cons pe_int (pa_cons pe_int (pa_cons pe_str pa_nil)))) pa_nil))) (by decide))))))))) (fun ea oe cls dO pn hz hf =>
          (pss_one (ps_ret (pe_callB (call_isX hz hf) (by rfl) bn.b_isinstance boot_isinstance (pa_cons (pv 3) (pa_cons (pe_glob (v := .ref c_ScribeError) rfl C.x_ScribeError.g rfl) pa_nil)))))))
      (pss_one (ps_ret pe_bl)))
/-- what the body of _law_unjoined does, and that it does -/
def t__law_unjoined (K : PySem.W.Frag) (c_EditError : Addr) (F_joined : DSp) : TS :=
  (tSeq (tTryOnly K c_EditError (fun Wx =>
          (tDrop (tCallX (spD K 3 F_joined) Wx (tCons (tVar 0) (tCons (tVar 1) (tCons (tVar 2) tNil)))))) (fun ea cls dO =>
          (tRet (tC (.bl true)))) WX0)
      (tRet (tC (.bl false))))
theorem d__law_unjoined {c_ScribeError c_EditError : Addr} (bn : Bn mg) (C : Cn K mg c_ScribeError c_EditError) {k : Nat} {f : Addr} {cdv : Value} {A : Around} {outer : List Env} {s : Shared} {H : Hp} {E : XK} (hr : Room k (A.deeper (PyProof.Rows.envOfC "_law_unjoined" (defScope s__law_unjoined) s.heap.objs.size f cdv)))
    {k_joined : Nat} {F_joined : DSp} (h_joined : Has P w K mg base (L2.CX P w) k_joined "joined" ["text", "first", "second"] F_joined) (l_joined : k_joined ≤ k)
    : PSs (cxOf CX0 P w K mg base ["text", "first", "second"] "_law_unjoined" (defScope s__law_unjoined) f cdv A outer s H E).nox (defBody s__law_unjoined) (t__law_unjoined K c_EditError F_joined) :=
  (pss_cons (ps_tryOnly rfl rfl ⟨rfl, by decide, .inl C.x_EditError.g⟩ takes0 (fun Wx pn xe tk po =>
          (pss_one (ps_expr (pe_hasX h_joined (hr.mono (by omega)) tk rfl (pa_cons (pv 0) (pa_cons (pv 1) (pa_cons (pv 2) pa_nil))) (by decide))))) (fun ea oe cls dO pn hz hf =>
          (pss_one (ps_ret pe_bl))))
      (pss_one (ps_ret pe_bl)))
/-- what the body of _law_after does, and that it does -/
def t__law_after (K : PySem.W.Frag)  : TS :=
  (tRet (tOp (rAddU K) (tOp (rAddU K) (tSl (rSlU K) (tVar 0) tNoPart (tPart (tOp (rIx K) (tVar 1) (tC (.int 0))))) (tOp (rIx K) (tVar 1) (tC (.int 2)))) (tSl (rSlU K) (tVar 0) (tPart (tOp (rAddU K) (tOp (rIx K) (tVar 1) (tC (.int 0))) (tOp (rIx K) (tVar 1) (tC (.int 1))))) tNoPart)))
theorem d__law_after {c_ScribeError c_EditError : Addr} (bn : Bn mg) (C : Cn K mg c_ScribeError c_EditError) {k : Nat} {f : Addr} {cdv : Value} {A : Around} {outer : List Env} {s : Shared} {H : Hp} {E : XK} (hr : Room k (A.deeper (PyProof.Rows.envOfC "_law_after" (defScope s__law_after) s.heap.objs.size f cdv)))
    : PSs (cxOf CX0 P w K mg base ["text", "edit"] "_law_after" (defScope s__law_after) f cdv A outer s H E).nox (defBody s__law_after) (t__law_after K) :=
  (pss_one (ps_ret (pe_op op_addU (pe_op op_addU (pe_slice sl_U (pv 0) po_none (po_some (pe_ix ix_seq (pv 1) pe_int (fun _ _ => rfl)))) (pe_ix ix_seq (pv 1) pe_int (fun _ _ => rfl))) (pe_slice sl_U (pv 0) (po_some (pe_op op_addU (pe_ix ix_seq (pv 1) pe_int (fun _ _ => rfl)) (pe_ix ix_seq (pv 1) pe_int (fun _ _ => rfl)))) po_none))))
/-- what the body of _law_common does, and that it does -/
def t__law_common (K : PySem.W.Frag)  : TS :=
  (tSeq (tAsg (tC (.int 0)) (gName 2))
      (tSeq (tWhile (tAnd (tTest (tOp rLtU (tVar 2) (tCB (rLenU K) (tCons (tVar 0) tNil)))) (tAnd (tTest (tOp rLtU (tVar 2) (tCB (rLenU K) (tCons (tVar 1) tNil)))) (tTest (tOp (rEqU K) (tOp (rIx K) (tVar 0) (tVar 2)) (tOp (rIx K) (tVar 1) (tVar 2))))))
          (tAsg (tOp (rAddU K) (tVar 2) (tC (.int 1))) (gName 2)))
      (tRet (tVar 2))))
theorem d__law_common {c_ScribeError c_EditError : Addr} (bn : Bn mg) (C : Cn K mg c_ScribeError c_EditError) {k : Nat} {f : Addr} {cdv : Value} {A : Around} {outer : List Env} {s : Shared} {H : Hp} {E : XK} (hr : Room k (A.deeper (PyProof.Rows.envOfC "_law_common" (defScope s__law_common) s.heap.objs.size f cdv)))
    : PSs (cxOf CX0 P w K mg base ["first", "second", "k"] "_law_common" (defScope s__law_common) f cdv A outer s H E).nox (defBody s__law_common) (t__law_common K) :=
  (pss_cons (ps_set (i := 2) sc__law_common.nd rfl (by first | exact Or.inl rfl | exact Or.inr rfl) pe_int)
      (pss_cons (ps_while PassesOwn.never (PW.pt (pw_and (pt_cmpR op_ltU (pv 2) (pe_callB call_lenU (by rfl) bn.b_len boot_len (pa_cons (pv 0) pa_nil)) (nomark _)) (pw_and (pt_cmpR op_ltU (pv 2) (pe_callB call_lenU (by rfl) bn.b_len boot_len (pa_cons (pv 1) pa_nil)) (nomark _)) (pw_and1 (pt_cmpR (op_eqU hr.units) (pe_ix ix_seq (pv 0) (pv 2) (fun _ _ => rfl)) (pe_ix ix_seq (pv 1) (pv 2) (fun _ _ => rfl)) (nomark _))))))
          (pss_one (ps_set (i := 2) sc__law_common.nd rfl (by first | exact Or.inl rfl | exact Or.inr rfl) (pe_op op_addU (pv 2) pe_int))))
      (pss_one (ps_ret (pv 2)))))
/-- what the body of law does, and that it does -/
def t_law (K : PySem.W.Frag) (F__law_state : DSp) (F__law_text : DSp) (F__law_edit : DSp) (F__law_after : DSp) (F__law_pick : DSp) (F_joined : DSp) (F_difference : DSp) (F__law_common : DSp) (F__law_refused : DSp) (F__law_unjoined : DSp) (F_applied : DSp) (F_inverse_of : DSp) (F__law_draw : DSp) (F_moved : DSp) : TS :=
  (tSeq (tAsg (tCall (spD K 1 F__law_state) [] E0 (tCons (tVar 0) tNil)) (gName 1))
      (tSeq (tAsg (tCall (spD K 2 F__law_text) [] E0 (tCons (tVar 1) (tCons (tC (.int 9)) tNil))) (gName 2))
      (tSeq (tAsg (tCall (spD K 2 F__law_edit) [] E0 (tCons (tVar 1) (tCons (tVar 2) tNil))) (gName 3))
      (tSeq (tAsg (tCall (spD K 2 F__law_after) [] E0 (tCons (tVar 2) (tCons (tVar 3) tNil))) (gName 4))
      (tSeq (tAsg (tCall (spD K 2 F__law_edit) [] E0 (tCons (tVar 1) (tCons (tVar 4) tNil))) (gName 5))
      (tSeq (tAsg (tCall (spD K 2 F__law_after) [] E0 (tCons (tVar 4) (tCons (tVar 5) tNil))) (gName 6))
      (tSeq (tIfS (tOr (tTest (tOp (rNeU K) (tCallX (spD K 2 F_applied) WX0 (tCons (tVar 2) (tCons (tVar 3) tNil))) (tVar 4))) (tTest (tOp (rNeU K) (tCallX (spD K 2 F_applied) WX0 (tCons (tVar 4) (tCons (tCallX (spD K 2 F_inverse_of) WX0 (tCons (tVar 2) (tCons (tVar 3) tNil))) tNil))) (tVar 2))))
          (tRet (tC (.bl false)))
          tNext)
      (tSeq (tIfS (tTest (tOp (rNeU K) (tSl (rSlU K) (tCallX (spD K 2 F_inverse_of) WX0 (tCons (tVar 2) (tCons (tVar 3) tNil))) tNoPart (tPart (tC (.int 2)))) (tTup (tCons (tOp (rIx K) (tVar 3) (tC (.int 0))) (tCons (tCB (rLenU K) (tCons (tOp (rIx K) (tVar 3) (tC (.int 2))) tNil)) tNil)))))
          (tRet (tC (.bl false)))
          tNext)
      (tSeq (tAsg (tCall (spD K 2 F__law_pick) [] E0 (tCons (tVar 1) (tCons (tLst (tCons (tTup (tCons (tUn rNegI (tC (.int 1))) (tCons (tC (.int 0)) (tCons (tC (.str "a")) tNil)))) (tCons (tTup (tCons (tC (.int 0)) (tCons (tUn rNegI (tC (.int 1))) (tCons (tC (.str "")) tNil)))) (tCons (tTup (tCons (tOp (rAddU K) (tCB (rLenU K) (tCons (tVar 2) tNil)) (tC (.int 1))) (tCons (tC (.int 0)) (tCons (tC (.str "")) tNil)))) (tCons (tTup (tCons (tCB (rLenU K) (tCons (tVar 2) tNil)) (tCons (tC (.int 1)) (tCons (tC (.str "b")) tNil)))) (tCons (tTup (tCons (tC (.int 0)) (tCons (tOp (rAddU K) (tCB (rLenU K) (tCons (tVar 2) tNil)) (tC (.int 1))) (tCons (tC (.str "")) tNil)))) tNil)))))) tNil))) (gName 7))
      (tSeq (tIfS (tNot (tB (tCall (spD K 3 F__law_refused) [] E0 (tCons (tVar 2) (tCons (tVar 7) (tCons (tCall (spD K 2 F__law_draw) [] E0 (tCons (tVar 1) (tCons (tC (.int 3)) tNil))) tNil))))))
          (tRet (tC (.bl false)))
          tNext)
      (tSeq (tAsg (tCall (spD K 2 F__law_pick) [] E0 (tCons (tVar 1) (tCons (tLst (tCons (tTup (tCons (tUn rNegI (tC (.int 1))) (tCons (tC (.int 0)) (tCons (tC (.str "a")) tNil)))) (tCons (tTup (tCons (tC (.int 0)) (tCons (tUn rNegI (tC (.int 1))) (tCons (tC (.str "")) tNil)))) (tCons (tTup (tCons (tOp (rAddU K) (tCB (rLenU K) (tCons (tVar 4) tNil)) (tC (.int 1))) (tCons (tC (.int 0)) (tCons (tC (.str "")) tNil)))) (tCons (tTup (tCons (tCB (rLenU K) (tCons (tVar 4) tNil)) (tCons (tC (.int 1)) (tCons (tC (.str "b")) tNil)))) (tCons (tTup (tCons (tC (.int 0)) (tCons (tOp (rAddU K) (tCB (rLenU K) (tCons (tVar 4) tNil)) (tC (.int 1))) (tCons (tC (.str "")) tNil)))) tNil)))))) tNil))) (gName 8))
      (tSeq (tIfS (tNot (tB (tCall (spD K 3 F__law_unjoined) [] E0 (tCons (tVar 2) (tCons (tVar 3) (tCons (tVar 8) tNil))))))
          (tRet (tC (.bl false)))
          tNext)
      (tSeq (tAsg (tCallX (spD K 3 F_joined) WX0 (tCons (tVar 2) (tCons (tVar 3) (tCons (tVar 5) tNil)))) (gName 9))
      (tSeq (tAsg (tCB rMin2 (tCons (tOp (rIx K) (tVar 3) (tC (.int 0))) (tCons (tOp (rIx K) (tVar 5) (tC (.int 0))) tNil))) (gName 10))
      (tSeq (tAsg (tCB rMax2 (tCons (tOp (rAddU K) (tOp (rIx K) (tVar 3) (tC (.int 0))) (tCB (rLenU K) (tCons (tOp (rIx K) (tVar 3) (tC (.int 2))) tNil))) (tCons (tOp (rAddU K) (tOp (rIx K) (tVar 5) (tC (.int 0))) (tOp (rIx K) (tVar 5) (tC (.int 1)))) tNil))) (gName 11))
      (tSeq (tIfS (tOr (tTest (tOp (rNeU K) (tOp (rIx K) (tVar 9) (tC (.int 0))) (tVar 10))) (tOr (tTest (tOp (rNeU K) (tOp (rIx K) (tVar 9) (tC (.int 1))) (tOp rSubI (tOp (rAddU K) (tOp rSubI (tVar 11) (tCB (rLenU K) (tCons (tOp (rIx K) (tVar 3) (tC (.int 2))) tNil))) (tOp (rIx K) (tVar 3) (tC (.int 1)))) (tVar 10)))) (tTest (tOp (rNeU K) (tCall (spD K 2 F__law_after) [] E0 (tCons (tVar 2) (tCons (tVar 9) tNil))) (tVar 6)))))
          (tRet (tC (.bl false)))
          tNext)
      (tSeq (tAsg (tCall (spD K 2 F_difference) [] E0 (tCons (tVar 2) (tCons (tVar 6) tNil))) (gName 12))
      (tSeq (tAsg (tCall (spD K 2 F__law_common) [] E0 (tCons (tVar 2) (tCons (tVar 6) tNil))) (gName 13))
      (tSeq (tAsg (tCall (spD K 2 F__law_common) [] E0 (tCons (tRevU K (tSl (rSlU K) (tVar 2) (tPart (tVar 13)) tNoPart)) (tCons (tRevU K (tSl (rSlU K) (tVar 6) (tPart (tVar 13)) tNoPart)) tNil))) (gName 14))
      (tSeq (tIfS (tTest (tOp (rNeU K) (tVar 12) (tTup (tCons (tVar 13) (tCons (tOp rSubI (tOp rSubI (tCB (rLenU K) (tCons (tVar 2) tNil)) (tVar 13)) (tVar 14)) (tCons (tSl (rSlU K) (tVar 6) (tPart (tVar 13)) (tPart (tOp rSubI (tCB (rLenU K) (tCons (tVar 6) tNil)) (tVar 14)))) tNil))))))
          (tRet (tC (.bl false)))
          tNext)
      (tSeq (tFor (iRng1 (tCons (tOp (rAddU K) (tCB (rLenU K) (tCons (tVar 2) tNil)) (tC (.int 1))) tNil)) (gName 15)
          (tFor (iList K (tLst (tCons (tC (.bl false)) (tCons (tC (.bl true)) tNil)))) (gName 16)
              (tSeq (tAsg (tVar 15) (gName 17))
              (tSeq (tIfS (tAnd (tTest (tOp rGeI (tVar 15) (tOp (rAddU K) (tOp (rIx K) (tVar 3) (tC (.int 0))) (tOp (rIx K) (tVar 3) (tC (.int 1)))))) (tOr (tTest (tOp rGtI (tVar 15) (tOp (rIx K) (tVar 3) (tC (.int 0))))) (tAnd (tTest (tOp (rEqU K) (tOp (rIx K) (tVar 3) (tC (.int 1))) (tC (.int 0)))) (tTr K (tVar 16)))))
                  (tAsg (tOp rSubI (tOp (rAddU K) (tVar 15) (tCB (rLenU K) (tCons (tOp (rIx K) (tVar 3) (tC (.int 2))) tNil))) (tOp (rIx K) (tVar 3) (tC (.int 1)))) (gName 17))
                  (tIfS (tTest (tOp rGtI (tVar 15) (tOp (rIx K) (tVar 3) (tC (.int 0)))))
                      (tAsg (tOp (rAddU K) (tOp (rIx K) (tVar 3) (tC (.int 0))) (tOp (rIx K) (tLst (tCons (tC (.int 0)) (tCons (tCB (rLenU K) (tCons (tOp (rIx K) (tVar 3) (tC (.int 2))) tNil)) tNil))) (tCB rInt (tCons (tVar 16) tNil)))) (gName 17))
                      tNext))
              (tIfS (tTest (tOp (rNeU K) (tCall (spD K 3 F_moved) [] E0 (tCons (tVar 3) (tCons (tVar 15) (tCons (tVar 16) tNil)))) (tVar 17)))
                  (tRet (tC (.bl false)))
                  tNext)))))
      (tRet (tC (.bl true))))))))))))))))))))))))
theorem d_law {c_ScribeError c_EditError : Addr} (bn : Bn mg) (C : Cn K mg c_ScribeError c_EditError) {k : Nat} {f : Addr} {cdv : Value} {A : Around} {outer : List Env} {s : Shared} {H : Hp} {E : XK} (hr : Room k (A.deeper (PyProof.Rows.envOfC "law" (defScope s_law) s.heap.objs.size f cdv)))
    {k__law_state : Nat} {F__law_state : DSp} (h__law_state : Has P w K mg base CX0 k__law_state "_law_state" ["script"] F__law_state) (l__law_state : k__law_state ≤ k) {k__law_text : Nat} {F__law_text : DSp} (h__law_text : Has P w K mg base CX0 k__law_text "_law_text" ["state", "longest"] F__law_text) (l__law_text : k__law_text ≤ k) {k__law_edit : Nat} {F__law_edit : DSp} (h__law_edit : Has P w K mg base CX0 k__law_edit "_law_edit" ["state", "text"] F__law_edit) (l__law_edit : k__law_edit ≤ k) {k__law_after : Nat} {F__law_after : DSp} (h__law_after : Has P w K mg base CX0 k__law_after "_law_after" ["text", "edit"] F__law_after) (l__law_after : k__law_after ≤ k) {k__law_pick : Nat} {F__law_pick : DSp} (h__law_pick : Has P w K mg base CX0 k__law_pick "_law_pick" ["state", "row"] F__law_pick) (l__law_pick : k__law_pick ≤ k) {k_joined : Nat} {F_joined : DSp} (h_joined : Has P w K mg base (L2.CX P w) k_joined "joined" ["text", "first", "second"] F_joined) (l_joined : k_joined ≤ k) {k_difference : Nat} {F_difference : DSp} (h_difference : Has P w K mg base CX0 k_difference "difference" ["first", "second"] F_difference) (l_difference : k_difference ≤ k) {k__law_common : Nat} {F__law_common : DSp} (h__law_common : Has P w K mg base CX0 k__law_common "_law_common" ["first", "second"] F__law_common) (l__law_common : k__law_common ≤ k) {k__law_refused : Nat} {F__law_refused : DSp} (h__law_refused : Has P w K mg base CX0 k__law_refused "_law_refused" ["text", "edit", "way"] F__law_refused) (l__law_refused : k__law_refused ≤ k) {k__law_unjoined : Nat} {F__law_unjoined : DSp} (h__law_unjoined : Has P w K mg base CX0 k__law_unjoined "_law_unjoined" ["text", "first", "second"] F__law_unjoined) (l__law_unjoined : k__law_unjoined ≤ k) {k_applied : Nat} {F_applied : DSp} (h_applied : Has P w K mg base (L2.CX P w) k_applied "applied" ["text", "edit"] F_applied) (l_applied : k_applied ≤ k) {k_inverse_of : Nat} {F_inverse_of : DSp} (h_inverse_of : Has P w K mg base (L2.CX P w) k_inverse_of "inverse_of" ["text", "edit"] F_inverse_of) (l_inverse_of : k_inverse_of ≤ k) {k__law_draw : Nat} {F__law_draw : DSp} (h__law_draw : Has P w K mg base CX0 k__law_draw "_law_draw" ["state", "many"] F__law_draw) (l__law_draw : k__law_draw ≤ k) {k_moved : Nat} {F_moved : DSp} (h_moved : Has P w K mg base CX0 k_moved "moved" ["edit", "position", "right"] F_moved) (l_moved : k_moved ≤ k)
    : PSs (cxOf CX0 P w K mg base ["script", "state", "text", "edit", "middle", "second", "last", "bad", "worse", "one", "start", "end", "told", "begin", "tail", "place", "right", "due"] "law" (defScope s_law) f cdv A outer s H E).nox (defBody s_law) (t_law K F__law_state F__law_text F__law_edit F__law_after F__law_pick F_joined F_difference F__law_common F__law_refused F__law_unjoined F_applied F_inverse_of F__law_draw F_moved) :=
  (pss_cons (ps_set (i := 1) sc_law.nd rfl (by first | exact Or.inl rfl | exact Or.inr rfl) (pe_has h__law_state (hr.mono (by omega)) pass0 rfl (pa_cons (pv 0) pa_nil) (by decide)))
      (pss_cons (ps_set (i := 2) sc_law.nd rfl (by first | exact Or.inl rfl | exact Or.inr rfl) (pe_has h__law_text (hr.mono (by omega)) pass0 rfl (pa_cons (pv 1) (pa_cons pe_int pa_nil)) (by decide)))
      (pss_cons (ps_set (i := 3) sc_law.nd rfl (by first | exact Or.inl rfl | exact Or.inr rfl) (pe_has h__law_edit (hr.mono (by omega)) pass0 rfl (pa_cons (pv 1) (pa_cons (pv 2) pa_nil)) (by decide)))
      (pss_cons (ps_set (i := 4) sc_law.nd rfl (by first | exact Or.inl rfl | exact Or.inr rfl) (pe_has h__law_after (hr.mono (by omega)) pass0 rfl (pa_cons (pv 2) (pa_cons (pv 3) pa_nil)) (by decide)))
      (pss_cons (ps_set (i := 5) sc_law.nd rfl (by first | exact Or.inl rfl | exact Or.inr rfl) (pe_has h__law_edit (hr.mono (by omega)) pass0 rfl (pa_cons (pv 1) (pa_cons (pv 4) pa_nil)) (by decide)))
      (pss_cons (ps_set (i := 6) sc_law.nd rfl (by first | exact Or.inl rfl | exact Or.inr rfl) (pe_has h__law_after (hr.mono (by omega)) pass0 rfl (pa_cons (pv 4) (pa_cons (pv 5) pa_nil)) (by decide)))
      (pss_cons (ps_if (PW.pt (pw_or (pt_cmpR (op_neU hr.units) (pe_hasX h_applied (hr.mono (by omega)) takes0 rfl (pa_cons (pv 2) (pa_cons (pv 3) pa_nil)) (by decide)) (pv 4) (nomark _)) (pw_or1 (pt_cmpR (op_neU hr.units) (pe_hasX h_applied (hr.mono (by omega)) takes0 rfl (pa_cons (pv 4) (pa_cons (pe_hasX h_inverse_of (hr.mono (by omega)) takes0 rfl (pa_cons (pv 2) (pa_cons (pv 3) pa_nil)) (by decide)) pa_nil)) (by decide)) (pv 2) (nomark _)))))
          (pss_one (ps_ret pe_bl))
          pss_nil)
      (pss_cons (ps_if (pt_cmpR (op_neU hr.units) (pe_slice sl_U (pe_hasX h_inverse_of (hr.mono (by omega)) takes0 rfl (pa_cons (pv 2) (pa_cons (pv 3) pa_nil)) (by decide)) po_none (po_some pe_int)) (pe_tup (pa_cons (pe_ix ix_seq (pv 3) pe_int (fun _ _ => rfl)) (pa_cons (pe_callB call_lenU (by rfl) bn.b_len boot_len (pa_cons (pe_ix ix_seq (pv 3) pe_int (fun _ _ => rfl)) pa_nil)) pa_nil))) (nomark _))
          (pss_one (ps_ret pe_bl))
          pss_nil)
      (pss_cons (ps_set (i := 7) sc_law.nd rfl (by first | exact Or.inl rfl | exact Or.inr rfl) (pe_has h__law_pick (hr.mono (by omega)) pass0 rfl (pa_cons (pv 1) (pa_cons (pe_lst (pa_cons (pe_tup (pa_cons (pe_un un_neg pe_int) (pa_cons pe_int (pa_cons pe_str pa_nil)))) (pa_cons (pe_tup (pa_cons pe_int (pa_cons (pe_un un_neg pe_int) (pa_cons pe_str pa_nil)))) (pa_cons (pe_tup (pa_cons (pe_op op_addU (pe_callB call_lenU (by rfl) bn.b_len boot_len (pa_cons (pv 2) pa_nil)) pe_int) (pa_cons pe_int (pa_cons pe_str pa_nil)))) (pa_cons (pe_tup (pa_cons (pe_callB call_lenU (by rfl) bn.b_len boot_len (pa_cons (pv 2) pa_nil)) (pa_cons pe_int (pa_cons pe_str pa_nil)))) (pa_cons (pe_tup (pa_cons pe_int (pa_cons (pe_op op_addU (pe_callB call_lenU (by rfl) bn.b_len boot_len (pa_cons (pv 2) pa_nil)) pe_int) (pa_cons pe_str pa_nil)))) pa_nil)))))) pa_nil)) (by decide)))
      (pss_cons (ps_if (pt_not (pt_val (pe_has h__law_refused (hr.mono (by omega)) pass0 rfl (pa_cons (pv 2) (pa_cons (pv 7) (pa_cons (pe_has h__law_draw (hr.mono (by omega)) pass0 rfl (pa_cons (pv 1) (pa_cons pe_int pa_nil)) (by decide)) pa_nil))) (by decide))))
          (pss_one (ps_ret pe_bl))
          pss_nil)
      (pss_cons (ps_set (i := 8) sc_law.nd rfl (by first | exact Or.inl rfl | exact Or.inr rfl) (pe_has h__law_pick (hr.mono (by omega)) pass0 rfl (pa_cons (pv 1) (pa_cons (pe_lst (pa_cons (pe_tup (pa_cons (pe_un un_neg pe_int) (pa_cons pe_int (pa_cons pe_str pa_nil)))) (pa_cons (pe_tup (pa_cons pe_int (pa_cons (pe_un un_neg pe_int) (pa_cons pe_str pa_nil)))) (pa_cons (pe_tup (pa_cons (pe_op op_addU (pe_callB call_lenU (by rfl) bn.b_len boot_len (pa_cons (pv 4) pa_nil)) pe_int) (pa_cons pe_int (pa_cons pe_str pa_nil)))) (pa_cons (pe_tup (pa_cons (pe_callB call_lenU (by rfl) bn.b_len boot_len (pa_cons (pv 4) pa_nil)) (pa_cons pe_int (pa_cons pe_str pa_nil)))) (pa_cons (pe_tup (pa_cons pe_int (pa_cons (pe_op op_addU (pe_callB call_lenU (by rfl) bn.b_len boot_len (pa_cons (pv 4) pa_nil)) pe_int) (pa_cons pe_str pa_nil)))) pa_nil)))))) pa_nil)) (by decide)))
      (pss_cons (ps_if (pt_not (pt_val (pe_has h__law_unjoined (hr.mono (by omega)) pass0 rfl (pa_cons (pv 2) (pa_cons (pv 3) (pa_cons (pv 8) pa_nil))) (by decide))))
          (pss_one (ps_ret pe_bl))
          pss_nil)
      (pss_cons (ps_set (i := 9) sc_law.nd rfl (by first | exact Or.inl rfl | exact Or.inr rfl) (pe_hasX h_joined (hr.mono (by omega)) takes0 rfl (pa_cons (pv 2) (pa_cons (pv 3) (pa_cons (pv 5) pa_nil))) (by decide)))
      (pss_cons (ps_set (i := 10) sc_law.nd rfl (by first | exact Or.inl rfl | exact Or.inr rfl) (pe_callB (call_min2 rfl) (by rfl) bn.b_min boot_min (pa_cons (pe_ix ix_seq (pv 3) pe_int (fun _ _ => rfl)) (pa_cons (pe_ix ix_seq (pv 5) pe_int (fun _ _ => rfl)) pa_nil))))
      (pss_cons (ps_set (i := 11) sc_law.nd rfl (by first | exact Or.inl rfl | exact Or.inr rfl) (pe_callB (call_max2 rfl) (by rfl) bn.b_max boot_max (pa_cons (pe_op op_addU (pe_ix ix_seq (pv 3) pe_int (fun _ _ => rfl)) (pe_callB call_lenU (by rfl) bn.b_len boot_len (pa_cons (pe_ix ix_seq (pv 3) pe_int (fun _ _ => rfl)) pa_nil))) (pa_cons (pe_op op_addU (pe_ix ix_seq (pv 5) pe_int (fun _ _ => rfl)) (pe_ix ix_seq (pv 5) pe_int (fun _ _ => rfl))) pa_nil))))
      (pss_cons (ps_if (PW.pt (pw_or (pt_cmpR (op_neU hr.units) (pe_ix ix_seq (pv 9) pe_int (fun _ _ => rfl)) (pv 10) (nomark _)) (pw_or (pt_cmpR (op_neU hr.units) (pe_ix ix_seq (pv 9) pe_int (fun _ _ => rfl)) (pe_op op_sub (pe_op op_addU (pe_op op_sub (pv 11) (pe_callB call_lenU (by rfl) bn.b_len boot_len (pa_cons (pe_ix ix_seq (pv 3) pe_int (fun _ _ => rfl)) pa_nil))) (pe_ix ix_seq (pv 3) pe_int (fun _ _ => rfl))) (pv 10)) (nomark _)) (pw_or1 (pt_cmpR (op_neU hr.units) (pe_has h__law_after (hr.mono (by omega)) pass0 rfl (pa_cons (pv 2) (pa_cons (pv 9) pa_nil)) (by decide)) (pv 6) (nomark _))))))
          (pss_one (ps_ret pe_bl))
          pss_nil)
      (pss_cons (ps_set (i := 12) sc_law.nd rfl (by first | exact Or.inl rfl | exact Or.inr rfl) (pe_has h_difference (hr.mono (by omega)) pass0 rfl (pa_cons (pv 2) (pa_cons (pv 6) pa_nil)) (by decide)))
      (pss_cons (ps_set (i := 13) sc_law.nd rfl (by first | exact Or.inl rfl | exact Or.inr rfl) (pe_has h__law_common (hr.mono (by omega)) pass0 rfl (pa_cons (pv 2) (pa_cons (pv 6) pa_nil)) (by decide)))
      (pss_cons (ps_set (i := 14) sc_law.nd rfl (by first | exact Or.inl rfl | exact Or.inr rfl) (pe_has h__law_common (hr.mono (by omega)) pass0 rfl (pa_cons (pe_revU (pe_slice sl_U (pv 2) (po_some (pv 13)) po_none)) (pa_cons (pe_revU (pe_slice sl_U (pv 6) (po_some (pv 13)) po_none)) pa_nil)) (by decide)))
      (pss_cons (ps_if (pt_cmpR (op_neU hr.units) (pv 12) (pe_tup (pa_cons (pv 13) (pa_cons (pe_op op_sub (pe_op op_sub (pe_callB call_lenU (by rfl) bn.b_len boot_len (pa_cons (pv 2) pa_nil)) (pv 13)) (pv 14)) (pa_cons (pe_slice sl_U (pv 6) (po_some (pv 13)) (po_some (pe_op op_sub (pe_callB call_lenU (by rfl) bn.b_len boot_len (pa_cons (pv 6) pa_nil)) (pv 14)))) pa_nil)))) (nomark _))
          (pss_one (ps_ret pe_bl))
          pss_nil)
      (pss_cons (ps_for PassesOwn.never rfl (pi_range1 rfl bn.b_range (pa_cons (pe_op op_addU (pe_callB call_lenU (by rfl) bn.b_len boot_len (pa_cons (pv 2) pa_nil)) pe_int) pa_nil)) (pg_name (i := 15) sc_law.nd rfl (by first | exact Or.inl rfl | exact Or.inr rfl))
          (pss_one (ps_for PassesOwn.never rfl (pi_list (pe_lst (pa_cons pe_bl (pa_cons pe_bl pa_nil)))) (pg_name (i := 16) sc_law.nd rfl (by first | exact Or.inl rfl | exact Or.inr rfl))
              (pss_cons (ps_set (i := 17) sc_law.nd rfl (by first | exact Or.inl rfl | exact Or.inr rfl) (pv 15))
              (pss_cons (ps_if (PW.pt (pw_and (pt_cmpR op_ge (pv 15) (pe_op op_addU (pe_ix ix_seq (pv 3) pe_int (fun _ _ => rfl)) (pe_ix ix_seq (pv 3) pe_int (fun _ _ => rfl))) (nomark _)) (pw_and1 (PW.pt (pw_or (pt_cmpR op_gt (pv 15) (pe_ix ix_seq (pv 3) pe_int (fun _ _ => rfl)) (nomark _)) (pw_or1 (PW.pt (pw_and (pt_cmpR (op_eqU hr.units) (pe_ix ix_seq (pv 3) pe_int (fun _ _ => rfl)) pe_int (nomark _)) (pw_and1 (pt_tr (pv 16)))))))))))
                  (pss_one (ps_set (i := 17) sc_law.nd rfl (by first | exact Or.inl rfl | exact Or.inr rfl) (pe_op op_sub (pe_op op_addU (pv 15) (pe_callB call_lenU (by rfl) bn.b_len boot_len (pa_cons (pe_ix ix_seq (pv 3) pe_int (fun _ _ => rfl)) pa_nil))) (pe_ix ix_seq (pv 3) pe_int (fun _ _ => rfl)))))
                  (pss_one (ps_if (pt_cmpR op_gt (pv 15) (pe_ix ix_seq (pv 3) pe_int (fun _ _ => rfl)) (nomark _))
                      (pss_one (ps_set (i := 17) sc_law.nd rfl (by first | exact Or.inl rfl | exact Or.inr rfl) (pe_op op_addU (pe_ix ix_seq (pv 3) pe_int (fun _ _ => rfl)) (pe_ix ix_seq (pe_lst (pa_cons pe_int (pa_cons (pe_callB call_lenU (by rfl) bn.b_len boot_len (pa_cons (pe_ix ix_seq (pv 3) pe_int (fun _ _ => rfl)) pa_nil)) pa_nil))) (pe_callTy call_int1 (by rfl) bn.b_int boot_int (pa_cons (pv 16) pa_nil)) (fun _ _ => rfl)))))
                      pss_nil)))
              (pss_one (ps_if (pt_cmpR (op_neU hr.units) (pe_has h_moved (hr.mono (by omega)) pass0 rfl (pa_cons (pv 3) (pa_cons (pv 15) (pa_cons (pv 16) pa_nil))) (by decide)) (pv 17) (nomark _))
                  (pss_one (ps_ret pe_bl))
                  pss_nil)))))))
      (pss_one (ps_ret pe_bl)))))))))))))))))))))))
end
section
variable {P : Program} {w : World} {K : PySem.W.Frag} {mg : Str → Option Value} {base : Heap}
end
open Dw
section
variable {K : PySem.W.Frag}
structure Ed where
  p : Int
  n : Int
  u : List Nat
def Ed.enc (e : Ed) : PyData := .tuple [.int e.p, .int e.n, .str (tx e.u)]
def Ed.fit (e : Ed) (t : List Nat) : Prop := 0 ≤ e.p ∧ 0 ≤ e.n ∧ e.p + e.n ≤ (t.length : Int)
instance (e : Ed) (t : List Nat) : Decidable (e.fit t) := inferInstanceAs (Decidable (_ ∧ _ ∧ _))
def Ed.app (e : Ed) (t : List Nat) : List Nat := t.take e.p.toNat ++ e.u ++ t.drop (e.p + e.n).toNat
def f_check_edit (cE : Addr) : DSp := fun xs ow Φ Ψ => ∃ (t : List Nat) (e : Ed), xs = [.z (.str (tx t)), .z e.enc] ∧ t.length ≤ 1000 ∧ ow = [] ∧ (e.fit t → Φ (.z .none) []) ∧ (¬ e.fit t → Ψ (.ref cE) none [])
theorem b_check_edit {cE : Addr} : BodyX K 2 (t_check_edit K cE) (f_check_edit cE) := by
  rintro B xs ow Φ Ψ Wx hB xc ⟨t, ⟨p, n, u⟩, rfl, hl, rfl, q1, q2⟩
  unfold t_check_edit
  walk_at "zin"
  refine w_ifP (t_orP (p := p < 0) (q := n < 0 ∨ (t.length : Int) < p + n) (fun PT k => t_test (p_op (p_prt (j := 0) rfl rfl rfl (p_int (op_p sc_lt ⟨_, rfl, k⟩))))) (fun PT k => t_orP (p := n < 0) (q := (t.length : Int) < p + n) (fun PT k => t_test (p_op (p_prt (j := 1) rfl rfl rfl (p_int (op_p sc_lt ⟨_, rfl, k⟩))))) (fun PT k => t_test (p_op (p_op (p_prt (j := 0) rfl rfl rfl (p_prt (j := 1) rfl rfl rfl (op_p sc_add (p_len (p_var rfl ⟨_, len_X (by omega), op_p sc_gt ⟨_, rfl, k⟩⟩)))))))) k) ⟨imp_t fun h => w_raise xc (q2 ?_), imp_f fun h => w_next (q1 ?_)⟩)
  · rintro ⟨h1, h2, h3⟩
    have h1 : 0 ≤ p := h1; have h2 : 0 ≤ n := h2; have h3 : p + n ≤ t.length := h3
    omega
  · refine ⟨?_, ?_, ?_⟩
    · show 0 ≤ p; omega
    · show 0 ≤ n; omega
    · show p + n ≤ t.length; omega
theorem p_check {B : Bs} {E : En} {i j : Nat} {cE : Addr} {t : List Nat} {e : Ed} {P : OE → En → Prop} {X : XD} {Wx : WX} (xc : XC K B X Wx) (hi : E.sl[i]? = some (some (.z (.str (tx t))))) (hj : E.sl[j]? = some (some (.z e.enc))) (hl : t.length ≤ 1000) (k1 : e.fit t → P (.z .none) E) (k2 : ¬ e.fit t → X (.ref cE) none E) :
    EvP K B (tCallX (spD K 2 (f_check_edit cE)) Wx (tCons (tVar i) (tCons (tVar j) tNil))) E P :=
  p_c0X xc (a_cons (p_var hi (a_cons (p_var hj (a_nil ⟨[.str (tx t), e.enc], rfl, rfl, fun Φ Ψ kk kx => ⟨t, e, rfl, hl, rfl, fun h => kk _ (k1 h), fun h => kx _ _ (k2 h)⟩⟩)))))
def f_applied (cE : Addr) : DSp := fun xs ow Φ Ψ => ∃ (t : List Nat) (e : Ed), xs = [.z (.str (tx t)), .z e.enc] ∧ t.length ≤ 1000 ∧ e.u.length ≤ 1000 ∧ ow = [] ∧ (e.fit t → Φ (.z (.str (tx (e.app t)))) []) ∧ (¬ e.fit t → Ψ (.ref cE) none [])
/-- text[:p] + u + text[p + n:] -/
theorem p_app {B : Bs} {sl : List (Option OE)} {i j : Nat} {t : List Nat} {e : Ed} {P : OE → En → Prop} (hi : sl[i]? = some (some (.z (.str (tx t))))) (hj : sl[j]? = some (some (.z e.enc))) (hl : t.length ≤ 10000) (hu : e.u.length ≤ 10000) (hf : e.fit t) (q : P (.z (.str (tx (e.app t)))) ⟨sl, []⟩) {ow : List OD} (how : ow = []) :
    EvP K B (tOp (rAddU K) (tOp (rAddU K) (tSl (rSlU K) (tVar i) tNoPart (tPart (tOp (rIx K) (tVar j) (tC (.int 0))))) (tOp (rIx K) (tVar j) (tC (.int 2)))) (tSl (rSlU K) (tVar i) (tPart (tOp (rAddU K) (tOp (rIx K) (tVar j) (tC (.int 0))) (tOp (rIx K) (tVar j) (tC (.int 1))))) tNoPart)) ⟨sl, ow⟩ P := by
  subst how
  obtain ⟨p, n, u⟩ := e
  obtain ⟨h1, h2, h3⟩ := hf
  have h1 : 0 ≤ p := h1; have h2 : 0 ≤ n := h2; have h3 : p + n ≤ t.length := h3
  obtain ⟨k, rfl⟩ : ∃ k : Nat, p = k := ⟨p.toNat, by omega⟩
  obtain ⟨m, rfl⟩ : ∃ m : Nat, n = m := ⟨n.toNat, by omega⟩
  have hu : u.length ≤ 10000 := hu
  refine p_op (p_op (p_cutX (p_var hi (o_none (o_some (p_prt (j := 0) hj rfl rfl ⟨_, rfl, t, rfl, by omega, p_prt (j := 2) hj rfl rfl (op_p (sc_addX ?_) ?_)⟩))))))
  · rw [cutL_pre, List.length_take]; omega
  rw [cutL_pre]
  refine p_cutX (p_var hi (o_some (p_op (p_prt (j := 0) hj rfl rfl (p_prt (j := 1) hj rfl rfl (op_p sc_add ⟨((k + m : Nat) : Int), by simp, o_none ⟨t, rfl, by omega, op_p (sc_addX ?_) ?_⟩⟩))))))
  · rw [cutL_drop, List.length_append, List.length_take, List.length_drop]; omega
  rw [cutL_drop]
  have e1 : Ed.app ⟨k, m, u⟩ t = t.take k ++ u ++ t.drop (k + m) := by
    show t.take (Int.toNat k) ++ u ++ t.drop (((k : Int) + m).toNat) = _
    rw [Int.toNat_natCast, show ((k : Int) + m).toNat = k + m by omega]
  rw [e1] at q
  exact q
theorem b_applied {cE : Addr} : BodyX K 2 (t_applied K (f_check_edit cE)) (f_applied cE) := by
  rintro B xs ow Φ Ψ Wx hB xc ⟨t, e, rfl, hl, hu, rfl, q1, q2⟩
  unfold t_applied
  walk_at "zin"
  refine w_seq (w_dropP (p_check xc rfl rfl hl (fun hf => ?_) q2))
  exact w_retP (p_app rfl rfl (by omega) (by omega) hf (q1 hf) rfl)
theorem p_applied {B : Bs} {E : En} {i : Nat} {tb : TE} {cE : Addr} {t : List Nat} {P : OE → En → Prop} {X : XD} {Wx : WX} (xc : XC K B X Wx) (hi : E.sl[i]? = some (some (.z (.str (tx t))))) (hl : t.length ≤ 1000)
    (h : EvP K B tb E fun y E1 => ∃ e : Ed, y = .z e.enc ∧ e.u.length ≤ 1000 ∧ (e.fit t → P (.z (.str (tx (e.app t)))) E1) ∧ (¬ e.fit t → X (.ref cE) none E1)) :
    EvP K B (tCallX (spD K 2 (f_applied cE)) Wx (tCons (tVar i) (tCons tb tNil))) E P := by
  refine p_c0X xc (a_cons (p_var hi (a_cons (p_mono h ?_))))
  rintro y E1 ⟨e, rfl, hu, k1, k2⟩
  exact a_nil ⟨[.str (tx t), e.enc], rfl, rfl, fun Φ Ψ kk kx => ⟨t, e, rfl, hl, hu, rfl, fun h => kk _ (k1 h), fun h => kx _ _ (k2 h)⟩⟩
def Ed.inv (e : Ed) (t : List Nat) : Ed := ⟨e.p, e.u.length, (t.drop e.p.toNat).take e.n.toNat⟩
def f_inverse_of (cE : Addr) : DSp := fun xs ow Φ Ψ => ∃ (t : List Nat) (e : Ed), xs = [.z (.str (tx t)), .z e.enc] ∧ t.length ≤ 1000 ∧ e.u.length ≤ 1000 ∧ ow = [] ∧ (e.fit t → Φ (.z (e.inv t).enc) []) ∧ (¬ e.fit t → Ψ (.ref cE) none [])
theorem b_inverse_of {cE : Addr} : BodyX K 2 (t_inverse_of K (f_check_edit cE)) (f_inverse_of cE) := by
  rintro B xs ow Φ Ψ Wx hB xc ⟨t, ⟨p, n, u⟩, rfl, hl, hu, rfl, q1, q2⟩
  have hu : u.length ≤ 1000 := hu
  unfold t_inverse_of
  walk_at "zin"
  refine w_seq (w_dropP (p_check xc rfl rfl hl (fun hf => ?_) q2))
  have q := q1 hf
  obtain ⟨h1, h2, h3⟩ := hf
  have h1 : 0 ≤ p := h1; have h2 : 0 ≤ n := h2; have h3 : p + n ≤ t.length := h3
  obtain ⟨k, rfl⟩ : ∃ k : Nat, p = k := ⟨p.toNat, by omega⟩
  obtain ⟨m, rfl⟩ : ∃ m : Nat, n = m := ⟨n.toNat, by omega⟩
  refine w_retP (p_tupz (a_cons (p_prt (j := 0) rfl rfl rfl (a_cons (p_len (p_prt (j := 2) rfl rfl rfl ⟨_, len_X (by omega), ?_⟩)))))) 
  refine a_cons (p_cutX (p_var rfl (o_some (p_prt (j := 0) rfl rfl rfl ⟨_, rfl, o_some (p_op (p_prt (j := 0) rfl rfl rfl (p_prt (j := 1) rfl rfl rfl (op_p sc_add ⟨((k + m : Nat) : Int), by simp, t, rfl, by omega, a_nil ⟨_, rfl, by simp, ?_⟩⟩))))⟩))))
  rw [cutL_mid t (by omega) (by omega), show k + m - k = m by omega]
  exact q
theorem p_inverse {B : Bs} {E : En} {i j : Nat} {cE : Addr} {t : List Nat} {e : Ed} {P : OE → En → Prop} {X : XD} {Wx : WX} (xc : XC K B X Wx) (hi : E.sl[i]? = some (some (.z (.str (tx t))))) (hj : E.sl[j]? = some (some (.z e.enc))) (hl : t.length ≤ 1000) (hu : e.u.length ≤ 1000) (k1 : e.fit t → P (.z (e.inv t).enc) E) (k2 : ¬ e.fit t → X (.ref cE) none E) :
    EvP K B (tCallX (spD K 2 (f_inverse_of cE)) Wx (tCons (tVar i) (tCons (tVar j) tNil))) E P :=
  p_c0X xc (a_cons (p_var hi (a_cons (p_var hj (a_nil ⟨[.str (tx t), e.enc], rfl, rfl, fun Φ Ψ kk kx => ⟨t, e, rfl, hl, hu, rfl, fun h => kk _ (k1 h), fun h => kx _ _ (k2 h)⟩⟩)))))
theorem t_bool {B : Bs} {E : En} {i : Nat} {b : Bool} {PT : Bool → En → Prop} (h : E.sl[i]? = some (some (.z (.bool b)))) (k : PT b E) : EvTP K B (tTr K (tVar i)) E PT := t_tr (p_var h ⟨b, .bl, k⟩)
def mv (e : Ed) (x : Int) (r : Bool) : Int := if x < e.p ∨ (x = e.p ∧ (0 < e.n ∨ r = false)) then x else if e.p + e.n ≤ x then x + e.u.length - e.n else if r = true then e.p + e.u.length else e.p
def f_moved : DSp := fun xs ow Φ _ => ∃ (e : Ed) (x : Int) (r : Bool), xs = [.z e.enc, .z (.int x), .z (.bool r)] ∧ e.u.length ≤ 1000 ∧ ow = [] ∧ Φ (.z (.int (mv e x r))) []
theorem b_moved : Body K 3 (t_moved K) f_moved := by
  rintro B xs ow Φ Ψ hB ⟨⟨p, n, u⟩, x, r, rfl, hu, rfl, q⟩
  have hu : u.length ≤ 1000 := hu
  have q : Φ (.z (.int (if x < p ∨ (x = p ∧ (0 < n ∨ r = false)) then x else if p + n ≤ x then x + u.length - n else if r = true then p + u.length else p))) [] := q
  unfold t_moved
  walk_at "zin"
  refine w_seq (w_ifP (t_orP (p := x < p) (q := x = p ∧ (0 < n ∨ r = false)) (fun PT k => t_test (p_op (p_var rfl (p_prt (j := 0) rfl rfl rfl (op_p sc_lt ⟨_, rfl, k⟩))))) (fun PT k => t_andP (p := x = p) (q := 0 < n ∨ r = false) (fun PT k => t_test (p_op (p_var rfl (p_prt (j := 0) rfl rfl rfl (op_p sc_eq ⟨_, rfl, k⟩))))) (fun _ PT k => t_orP (p := 0 < n) (q := r = false) (fun PT k => t_test (p_op (p_prt (j := 1) rfl rfl rfl (p_int (op_p sc_gt ⟨_, rfl, k⟩))))) (fun PT k => t_not (t_bool rfl ?_)) k) k) ⟨imp_t fun h => ?_, imp_f fun h => w_next ?_⟩))
  · cases r
    · exact k
    · exact k
  · rw [if_pos h] at q
    exact w_retP (p_var rfl q)
  rw [if_neg h] at q
  refine w_seq (w_ifP (t_test (p_op (p_var rfl (p_op (p_prt (j := 0) rfl rfl rfl (p_prt (j := 1) rfl rfl rfl (op_p sc_add (op_p sc_ge ⟨_, rfl, imp_t fun h => ?_, imp_f fun h => w_next ?_⟩)))))))))
  · rw [if_pos h] at q
    exact w_retP (p_op (p_op (p_var rfl (p_len (p_prt (j := 2) rfl rfl rfl ⟨_, len_X (by omega), op_p sc_add (p_prt (j := 1) rfl rfl rfl (op_p sc_sub q))⟩)))))
  rw [if_neg h] at q
  refine w_retP (p_if (t_bool rfl ⟨fun h => ?_, fun h => ?_⟩))
  · rw [if_pos h] at q
    exact p_op (p_prt (j := 0) rfl rfl rfl (p_len (p_prt (j := 2) rfl rfl rfl ⟨_, len_X (by omega), op_p sc_add q⟩)))
  · rw [if_neg (by rw [h]; decide)] at q
    exact p_prt (j := 0) rfl rfl rfl q
/-! ### beginnings in common -/
def cpl : List Nat → List Nat → Nat
  | a :: as, b :: bs => if a = b then cpl as bs + 1 else 0
  | _, _ => 0
theorem cpl_iff : ∀ (a b : List Nat) (k : Nat), k ≤ cpl a b → (k < cpl a b ↔ ∃ c, a[k]? = some c ∧ b[k]? = some c)
  | [], b, k, h => by
    have e : cpl [] b = 0 := by cases b <;> rfl
    rw [e] at h ⊢
    simp
  | x :: a, [], k, h => by
    have e : cpl (x :: a) [] = 0 := rfl
    rw [e] at h ⊢
    simp
  | x :: a, y :: b, k, h => by
    by_cases e : x = y
    · subst e
      have e2 : cpl (x :: a) (x :: b) = cpl a b + 1 := if_pos rfl
      rw [e2] at h ⊢
      cases k with
      | zero => simp
      | succ k =>
        have := cpl_iff a b k (by omega)
        simp only [List.getElem?_cons_succ]
        rw [← this]
        omega
    · have e2 : cpl (x :: a) (y :: b) = 0 := if_neg e
      rw [e2] at h ⊢
      have : k = 0 := by omega
      subst this
      simp [fun z => e (Eq.symm z)]
      exact fun z => e z.symm
theorem cpl_le : ∀ (a b : List Nat), cpl a b ≤ a.length ∧ cpl a b ≤ b.length
  | [], b => by
    have e : cpl [] b = 0 := by cases b <;> rfl
    rw [e]; exact ⟨Nat.zero_le _, Nat.zero_le _⟩
  | x :: a, [] => ⟨Nat.zero_le _, Nat.zero_le _⟩
  | x :: a, y :: b => by
    unfold cpl
    have := cpl_le a b
    split
    · simp; exact this
    · exact ⟨Nat.zero_le _, Nat.zero_le _⟩
def f__law_common : DSp := fun xs ow Φ _ => ∃ a b : List Nat, xs = [.z (.str (tx a)), .z (.str (tx b))] ∧ a.length ≤ 1000 ∧ b.length ≤ 1000 ∧ ow = [] ∧ Φ (.z (.int (cpl a b))) []
theorem b__law_common : Body K 3 (t__law_common K) f__law_common := by
  rintro B xs ow Φ Ψ hB ⟨a, b, rfl, ha, hb, rfl, q⟩
  unfold t__law_common
  walk_at "zin"
  refine w_seq (w_asgP (p_int ?_))
  show W _ _ _ _ _
  walk_at "zset"
  refine w_seq (w_whileP (fun m E' => ∃ k : Nat, k ≤ cpl a b ∧ m = cpl a b - k ∧ E' = ⟨[some (.z (.str (tx a))), some (.z (.str (tx b))), some (.z (.int k))], []⟩) (cpl a b) ⟨0, Nat.zero_le _, rfl, rfl⟩ ?_)
  rintro m E' ⟨k, hk, rfl, rfl⟩
  have iff := cpl_iff a b k hk
  have out : ∀ Dn : Dn, ¬ k < cpl a b → Dn.rt = (fun x E' => Φ x E'.ow) → W K B (tRet (tVar 2)) ⟨[some (.z (.str (tx a))), some (.z (.str (tx b))), some (.z (.int k))], []⟩ Dn := fun Dn h hD => by
    rw [show cpl a b = k by omega] at q
    exact w_retP (p_var rfl (by rw [hD]; exact q))
  refine t_and (t_test (p_op (p_var rfl (p_len (p_var rfl ⟨_, len_X (by omega), op_p sc_lt ⟨_, rfl, imp_t fun h1 => ?_, imp_f fun h1 => ⟨fun z => (nomatch z), fun _ => out _ (fun z => ?_) rfl⟩⟩⟩)))))
  · have h1 : k < a.length := by omega
    refine t_and (t_test (p_op (p_var rfl (p_len (p_var rfl ⟨_, len_X (by omega), op_p sc_lt ⟨_, rfl, imp_t fun h2 => ?_, imp_f fun h2 => ⟨fun z => (nomatch z), fun _ => out _ (fun z => ?_) rfl⟩⟩⟩)))))
    · have h2 : k < b.length := by omega
      refine t_test (p_op (p_ix (p_var rfl (p_var rfl ⟨_, _, rfl, ix_X (by omega) (atI_nat (List.getElem?_eq_getElem h1)), p_ix (p_var rfl (p_var rfl ⟨_, _, rfl, ix_X (by omega) (atI_nat (List.getElem?_eq_getElem h2)), op_p sc_eqX ⟨_, rfl, imp_t fun h => ?_, imp_f fun h => out _ (fun z => ?_) rfl⟩⟩))⟩))))
      · have h : a[k] = b[k] := by simpa using h
        have hlt : k < cpl a b := iff.mpr ⟨a[k], List.getElem?_eq_getElem h1, by rw [h]; exact List.getElem?_eq_getElem h2⟩
        refine w_asgP (p_op (p_var rfl (p_int (op_p sc_add ⟨cpl a b - (k + 1), by omega, k + 1, by omega, rfl, ?_⟩))))
        rfl
      · obtain ⟨c, e1, e2⟩ := iff.mp z
        rw [List.getElem?_eq_getElem h1] at e1
        rw [List.getElem?_eq_getElem h2] at e2
        exact h (by rw [Option.some.inj e1, Option.some.inj e2])
    · have := (cpl_le a b).2
      omega
  · have := (cpl_le a b).1
    omega
def dif (a b : List Nat) : Ed := ⟨cpl a b, (a.length : Int) - cpl a b - cpl (a.drop (cpl a b)).reverse (b.drop (cpl a b)).reverse, (b.drop (cpl a b)).take (b.length - cpl (a.drop (cpl a b)).reverse (b.drop (cpl a b)).reverse - cpl a b)⟩
def f_difference : DSp := fun xs ow Φ _ => ∃ a b : List Nat, xs = [.z (.str (tx a)), .z (.str (tx b))] ∧ a.length ≤ 1000 ∧ b.length ≤ 1000 ∧ ow = [] ∧ Φ (.z (dif a b).enc) []
theorem rev_get (a : List Nat) (B k : Nat) (h : k + B < a.length) : (a.drop B).reverse[k]? = a[a.length - 1 - k]? := by
  rw [List.getElem?_reverse (by rw [List.length_drop]; omega), List.getElem?_drop, List.length_drop]
  congr 1
  omega
theorem b_difference : Body K 4 (t_difference K) f_difference := by
  rintro B xs ow Φ Ψ hB ⟨a, b, rfl, ha, hb, rfl, q⟩
  unfold t_difference
  walk_at "zin"
  have hc := cpl_le a b
  refine w_seq (w_asgP (p_int ?_))
  show W _ _ _ _ _
  walk_at "zset"
  have p_min : ∀ {E : En} {P : OE → En → Prop}, E.sl[0]? = some (some (.z (.str (tx a)))) → E.sl[1]? = some (some (.z (.str (tx b)))) → P (.z (.int (min (a.length : Int) b.length))) E → EvP K B (tCB rMin2 (tCons (tCB (rLenU K) (tCons (tVar 0) tNil)) (tCons (tCB (rLenU K) (tCons (tVar 1) tNil)) tNil))) E P := fun h0 h1 k => p_min2 (p_len (p_var h0 ⟨_, len_X (by omega), p_len (p_var h1 ⟨_, len_X (by omega), _, _, rfl, rfl, k⟩)⟩))
  refine w_mid (fun E' => E' = ⟨[some (.z (.str (tx a))), some (.z (.str (tx b))), some (.z (.int (cpl a b))), none], []⟩) ?_ ?_
  · refine w_whileP (fun m E' => ∃ k : Nat, k ≤ cpl a b ∧ m = cpl a b - k ∧ E' = ⟨[some (.z (.str (tx a))), some (.z (.str (tx b))), some (.z (.int k)), none], []⟩) (cpl a b) ⟨0, Nat.zero_le _, rfl, rfl⟩ ?_
    rintro m E' ⟨k, hk, rfl, rfl⟩
    have iff := cpl_iff a b k hk
    have out : ¬ k < cpl a b → (⟨[some (.z (.str (tx a))), some (.z (.str (tx b))), some (.z (.int k)), none], []⟩ : En) = ⟨[some (.z (.str (tx a))), some (.z (.str (tx b))), some (.z (.int (cpl a b))), none], []⟩ := fun h => by rw [show k = cpl a b by omega]
    refine t_and (t_test (p_op (p_var rfl (p_min rfl rfl (op_p sc_lt ⟨_, rfl, imp_t fun h1 => ?_, imp_f fun h1 => ⟨fun z => (nomatch z), fun _ => out (fun z => h1 (by omega))⟩⟩)))))
    have g1 : k < a.length := by omega
    have g2 : k < b.length := by omega
    refine t_test (p_op (p_ix (p_var rfl (p_var rfl ⟨_, _, rfl, ix_X (by omega) (atI_nat (List.getElem?_eq_getElem g1)), p_ix (p_var rfl (p_var rfl ⟨_, _, rfl, ix_X (by omega) (atI_nat (List.getElem?_eq_getElem g2)), op_p sc_eqX ⟨_, rfl, imp_t fun h => ?_, imp_f fun h => out (fun z => ?_)⟩⟩))⟩))))
    · have h : a[k] = b[k] := by simpa using h
      have hlt : k < cpl a b := iff.mpr ⟨a[k], List.getElem?_eq_getElem g1, by rw [h]; exact List.getElem?_eq_getElem g2⟩
      exact w_asgP (p_op (p_var rfl (p_int (op_p sc_add ⟨cpl a b - (k + 1), by omega, k + 1, by omega, rfl, rfl⟩))))
    · obtain ⟨c, e1, e2⟩ := iff.mp z
      rw [List.getElem?_eq_getElem g1] at e1
      rw [List.getElem?_eq_getElem g2] at e2
      exact h (by rw [Option.some.inj e1, Option.some.inj e2])
  rintro E' rfl
  have q : Φ (.z (.tuple [.int (cpl a b), .int ((a.length : Int) - cpl a b - cpl (a.drop (cpl a b)).reverse (b.drop (cpl a b)).reverse), .str (tx ((b.drop (cpl a b)).take (b.length - cpl (a.drop (cpl a b)).reverse (b.drop (cpl a b)).reverse - cpl a b)))])) [] := q
  have hT := cpl_le (a.drop (cpl a b)).reverse (b.drop (cpl a b)).reverse
  have hI := cpl_iff (a.drop (cpl a b)).reverse (b.drop (cpl a b)).reverse
  rw [List.length_reverse, List.length_reverse, List.length_drop, List.length_drop] at hT
  have rg1 := rev_get a (cpl a b)
  have rg2 := rev_get b (cpl a b)
  generalize cpl (a.drop (cpl a b)).reverse (b.drop (cpl a b)).reverse = T at q hT hI
  generalize cpl a b = C at q hT hI hc rg1 rg2 ⊢
  refine w_seq (w_asgP (p_int ?_))
  show W _ _ _ _ _
  walk_at "zset"
  refine w_seq (w_whileP (fun m E' => ∃ k : Nat, k ≤ T ∧ m = T - k ∧ E' = ⟨[some (.z (.str (tx a))), some (.z (.str (tx b))), some (.z (.int C)), some (.z (.int k))], []⟩) T ⟨0, Nat.zero_le _, rfl, rfl⟩ ?_)
  rintro m E' ⟨k, hk, rfl, rfl⟩
  have out : ∀ Dn : Dn, ¬ k < T → Dn.rt = (fun x E' => Φ x E'.ow) → W K B (tRet (tTup (tCons (tVar 2) (tCons (tOp rSubI (tOp rSubI (tCB (rLenU K) (tCons (tVar 0) tNil)) (tVar 2)) (tVar 3)) (tCons (tSl (rSlU K) (tVar 1) (tPart (tVar 2)) (tPart (tOp rSubI (tCB (rLenU K) (tCons (tVar 1) tNil)) (tVar 3)))) tNil))))) ⟨[some (.z (.str (tx a))), some (.z (.str (tx b))), some (.z (.int C)), some (.z (.int k))], []⟩ Dn := fun Dn h hD => by
    have e : k = T := by omega
    subst e
    refine w_retP (p_tupz (a_cons (p_var rfl (a_cons (p_op (p_op (p_len (p_var rfl ⟨_, len_X (by omega), p_var rfl (op_p sc_sub (p_var rfl (op_p sc_sub ?_)))⟩))))))))
    refine a_cons (p_cutX (p_var rfl (o_some (p_var rfl ⟨_, rfl, o_some (p_op (p_len (p_var rfl ⟨_, len_X (by omega), p_var rfl (op_p sc_sub ⟨((b.length - k : Nat) : Int), by rw [show (b.length : Int) - (k : Int) = ((b.length - k : Nat) : Int) by omega], b, rfl, by omega, a_nil ⟨_, rfl, by simp, ?_⟩⟩)⟩)))⟩))))
    rw [cutL_mid b (by omega) (by omega), hD]
    exact q
  refine t_and (t_test (p_op (p_var rfl (p_op (p_min rfl rfl (p_var rfl (op_p sc_sub (op_p sc_lt ⟨_, rfl, imp_t fun h1 => ?_, imp_f fun h1 => ⟨fun z => (nomatch z), fun _ => out _ (fun z => h1 (by omega)) rfl⟩⟩))))))))
  have g1 : k + C < a.length := by omega
  have g2 : k + C < b.length := by omega
  have iff := hI k hk
  have r1 : (a.drop C).reverse[k]? = some a[a.length - 1 - k] := by rw [rg1 k g1]; exact List.getElem?_eq_getElem (by omega)
  have r2 : (b.drop C).reverse[k]? = some b[b.length - 1 - k] := by rw [rg2 k g2]; exact List.getElem?_eq_getElem (by omega)
  rw [r1, r2] at iff
  refine t_test (p_op (p_ix (p_var rfl (p_op (p_op (p_len (p_var rfl ⟨_, len_X (by omega), p_int (op_p sc_sub (p_var rfl (op_p sc_sub ⟨((a.length - 1 - k : Nat) : Int), _, by rw [show (a.length : Int) - 1 - (k : Int) = ((a.length - 1 - k : Nat) : Int) by omega], ix_X (by omega) (atI_nat (List.getElem?_eq_getElem (by omega))), ?_⟩)))⟩)))))))
  refine p_ix (p_var rfl (p_op (p_op (p_len (p_var rfl ⟨_, len_X (by omega), p_int (op_p sc_sub (p_var rfl (op_p sc_sub ⟨((b.length - 1 - k : Nat) : Int), _, by rw [show (b.length : Int) - 1 - (k : Int) = ((b.length - 1 - k : Nat) : Int) by omega], ix_X (by omega) (atI_nat (List.getElem?_eq_getElem (by omega))), op_p sc_eqX ⟨_, rfl, imp_t fun h => ?_, imp_f fun h => out _ (fun z => ?_) rfl⟩⟩)))⟩)))))
  · have h : a[a.length - 1 - k] = b[b.length - 1 - k] := by simpa using h
    have hlt : k < T := iff.mpr ⟨_, rfl, by rw [h]⟩
    exact w_asgP (p_op (p_var rfl (p_int (op_p sc_add ⟨T - (k + 1), by omega, k + 1, by omega, rfl, rfl⟩))))
  · obtain ⟨c, e1, e2⟩ := iff.mp z
    exact h (by rw [Option.some.inj e1, Option.some.inj e2])
def jst (a b : Ed) : Int := min a.p b.p
def jen (a b : Ed) : Int := max (a.p + a.u.length) (b.p + b.n)
def jn (a b : Ed) (t : List Nat) : Ed := ⟨jst a b, jen a b - a.u.length + a.n - jst a b, ((a.app t).drop (jst a b).toNat).take (b.p.toNat - (jst a b).toNat) ++ b.u ++ ((a.app t).drop (b.p + b.n).toNat).take ((jen a b).toNat - (b.p + b.n).toNat)⟩
def f_joined (cE : Addr) : DSp := fun xs ow Φ Ψ => ∃ (t : List Nat) (a b : Ed), xs = [.z (.str (tx t)), .z a.enc, .z b.enc] ∧ t.length ≤ 500 ∧ a.u.length ≤ 500 ∧ b.u.length ≤ 500 ∧ ow = [] ∧ (a.fit t → b.fit (a.app t) → Φ (.z (jn a b t).enc) []) ∧ ((a.fit t → ¬ b.fit (a.app t)) → Ψ (.ref cE) none [])
theorem app_len {e : Ed} {t : List Nat} (h : e.fit t) : ((e.app t).length : Int) = t.length + e.u.length - e.n := by
  obtain ⟨p, n, u⟩ := e
  obtain ⟨h1, h2, h3⟩ := h
  have h1 : 0 ≤ p := h1; have h2 : 0 ≤ n := h2; have h3 : p + n ≤ t.length := h3
  show ((t.take p.toNat ++ u ++ t.drop (p + n).toNat).length : Int) = t.length + u.length - n
  rw [List.length_append, List.length_append, List.length_take, List.length_drop]
  omega
theorem b_joined {cE : Addr} : BodyX K 7 (t_joined K (f_applied cE) (f_check_edit cE)) (f_joined cE) := by
  rintro B xs ow Φ Ψ Wx hB xc ⟨t, a, b, rfl, hl, hu, hu2, rfl, q1, q2⟩
  unfold t_joined
  walk_at "zin"
  refine w_seq (w_asgP (p_applied xc rfl (by omega) (p_var rfl ⟨a, rfl, by omega, fun hf => ?_, fun hf => q2 fun z => absurd z hf⟩)))
  have hal := app_len hf
  show W _ _ _ _ _
  walk_at "zset"
  have hal2 : (a.app t).length ≤ 1000 := by have := hf.2.1; omega
  refine w_seq (w_dropP (p_check xc rfl rfl hal2 (fun hg => ?_) fun hg => q2 fun _ => hg))
  have q := q1 hf hg
  generalize hmid : a.app t = mid at q hal hal2 hg ⊢
  unfold jn at q
  rw [hmid] at q
  obtain ⟨p1, n1, u1⟩ := a
  obtain ⟨p2, n2, u2⟩ := b
  obtain ⟨a1, a2, a3⟩ := hf
  obtain ⟨b1, b2, b3⟩ := hg
  have a1 : 0 ≤ p1 := a1; have a2 : 0 ≤ n1 := a2; have a3 : p1 + n1 ≤ t.length := a3
  have b1 : 0 ≤ p2 := b1; have b2 : 0 ≤ n2 := b2; have b3 : p2 + n2 ≤ mid.length := b3
  have hu : u1.length ≤ 500 := hu
  have hu2 : u2.length ≤ 500 := hu2
  have hal : (mid.length : Int) = t.length + u1.length - n1 := hal
  obtain ⟨k1, rfl⟩ : ∃ k : Nat, p1 = k := ⟨p1.toNat, by omega⟩
  obtain ⟨m1, rfl⟩ : ∃ k : Nat, n1 = k := ⟨n1.toNat, by omega⟩
  obtain ⟨k2, rfl⟩ : ∃ k : Nat, p2 = k := ⟨p2.toNat, by omega⟩
  obtain ⟨m2, rfl⟩ : ∃ k : Nat, n2 = k := ⟨n2.toNat, by omega⟩
  refine w_seq (w_asgP (p_min2 (p_prt (j := 0) rfl rfl rfl (p_prt (j := 0) rfl rfl rfl ⟨_, _, rfl, rfl, ?_⟩))))
  show W _ _ _ _ _
  walk_at "zset"
  refine w_seq (w_asgP (p_max2 (p_op (p_prt (j := 0) rfl rfl rfl (p_len (p_prt (j := 2) rfl rfl rfl ⟨_, len_X (by omega), op_p sc_add (p_op (p_prt (j := 0) rfl rfl rfl (p_prt (j := 1) rfl rfl rfl (op_p sc_add ⟨_, _, rfl, rfl, ?_⟩))))⟩))))))
  show W _ _ _ _ _
  walk_at "zset"
  obtain ⟨s, hs⟩ : ∃ s : Nat, min (k1 : Int) k2 = s := ⟨(min (k1 : Int) k2).toNat, by omega⟩
  obtain ⟨en, hen⟩ : ∃ s : Nat, max ((k1 : Int) + u1.length) (k2 + m2) = s := ⟨(max ((k1 : Int) + u1.length) (k2 + m2)).toNat, by omega⟩
  have q : Φ (.z (Ed.enc ⟨(s : Int), (en : Int) - u1.length + m1 - s, (mid.drop s).take (k2 - s) ++ u2 ++ (mid.drop (k2 + m2)).take (en - (k2 + m2))⟩)) [] := by
    have e1 : jst ⟨(k1 : Int), m1, u1⟩ ⟨k2, m2, u2⟩ = s := hs
    have e2 : jen ⟨(k1 : Int), m1, u1⟩ ⟨k2, m2, u2⟩ = en := hen
    rw [e1, e2] at q
    have e3 : ((k2 : Int) + m2).toNat = k2 + m2 := by omega
    dsimp only at q
    rw [Int.toNat_natCast, Int.toNat_natCast, Int.toNat_natCast, e3] at q
    exact q
  rw [hs, hen]
  refine w_seq (w_asgP (p_op (p_op (p_cutX (p_var rfl (o_some (p_var rfl ⟨_, rfl, o_some (p_prt (j := 0) rfl rfl rfl ⟨_, rfl, mid, rfl, by omega, p_prt (j := 2) rfl rfl rfl (op_p (sc_addX ?_) ?_)⟩)⟩)))))))
  · rw [cutL_mid mid (by omega) (by omega), List.length_take, List.length_drop]; omega
  rw [cutL_mid mid (by omega) (by omega)]
  refine p_cutX (p_var rfl (o_some (p_op (p_prt (j := 0) rfl rfl rfl (p_prt (j := 1) rfl rfl rfl (op_p sc_add ⟨((k2 + m2 : Nat) : Int), by simp, o_some (p_var rfl ⟨_, rfl, mid, rfl, by omega, op_p (sc_addX ?_) ?_⟩)⟩))))))
  · rw [cutL_mid mid (by omega) (by omega), List.length_append, List.length_take, List.length_drop, List.length_take, List.length_drop]; omega
  rw [cutL_mid mid (by omega) (by omega)]
  show W _ _ _ _ _
  walk_at "zset"
  refine w_retP (p_tupz (a_cons (p_var rfl (a_cons (p_op (p_op (p_op (p_var rfl (p_len (p_prt (j := 2) rfl rfl rfl ⟨_, len_X (by omega), op_p sc_sub (p_prt (j := 1) rfl rfl rfl (op_p sc_add (p_var rfl (op_p sc_sub ?_))))⟩))))))))))
  exact a_cons (p_var rfl (a_nil ⟨_, rfl, by simp, q⟩))
/-! ### the law's own -/
def f__law_text : DSp := fun xs ow Φ _ => ∃ (cs : List Int) (sd m : Int), xs = [.r 0, .z (.int m)] ∧ 0 ≤ m ∧ m ≤ 1000 ∧ Nn cs ∧ SdOk sd ∧ ow = stO cs sd ∧ ∀ (u : List Nat) (cs' : List Int) (sd' : Int), (u.length : Int) ≤ m ∧ Tk u → Nn cs' → SdOk sd' → Φ (.z (.str (tx u))) (stO cs' sd')
theorem one_sum (us : List Nat) : ((((us.map fun c => [c]).map tx).map (·.length)).sum) = us.length := by
  induction us with
  | nil => rfl
  | cons c r ih =>
    show (tx [c]).length + ((((r.map fun c => [c]).map tx).map (·.length)).sum) = r.length + 1
    rw [ih, tx_len]
    show 1 + r.length = _
    omega
theorem stO_cl (cs : List Int) (sd : Int) : ∀ o ∈ stO cs sd, o.cl 2 := fun o ho => by
  rcases List.mem_cons.mp ho with rfl | ho
  · intro x hx
    rcases List.mem_cons.mp hx with rfl | hx
    · exact (by decide : 1 < 2)
    · rw [List.mem_singleton.mp hx]; trivial
  · rw [List.mem_singleton.mp ho]
    exact cl_z 2 _
theorem b__law_text : Body K 3 (t__law_text K f__law_pick f__law_draw) f__law_text := by
  rintro B xs ow Φ Ψ hB ⟨cs, sd, m, rfl, hm, hm2, hcs, hsd, rfl, q⟩
  unfold t__law_text
  walk_at "zin"
  refine w_retC (p_join (p_str ⟨"", rfl, ?_⟩))
  refine p_lcE (fun k acc ow => ∃ (us : List Nat) (cs : List Int) (sd : Int), acc = us.map (fun c => .z (.str (tx [c]))) ∧ (us.length = k ∧ Tk us) ∧ Nn cs ∧ SdOk sd ∧ ow = stO cs sd ++ [.lst acc]) (p_drawS rfl (p_op (p_var rfl (p_int (op_p sc_add ⟨cs, sd, m + 1, [], rfl, by simp, hcs, hsd, by omega, by omega, fun r cs' sd' a b c d => ⟨r, rfl, by omega, ⟨[], cs', sd', rfl, ⟨rfl, fun _ h => (nomatch h)⟩, c, d, rfl⟩, ?_, ?_, ?_⟩⟩)))))
  · rintro k acc ow ⟨us, cs, sd, rfl, _, _, _, rfl⟩
    rfl
  · rintro B' hB' k acc ow hk ⟨us, cs, sd, rfl, ⟨hl, ht⟩, h1, h2, rfl⟩
    refine t_yes ⟨fun _ => ?_, fun z => (nomatch z)⟩
    refine p_pickS rfl (p_lstZ (a_cons (p_str (a_cons (p_str (a_cons (p_str (a_cons (p_str (a_nil ⟨_, rfl, by simp, cs, sd, _, [.lst _], .l, rfl, h1, h2, by simp, by simp, fun d hd cs' sd' c e => ?_⟩)))))))))) 
    obtain ⟨c0, rfl, hc0⟩ : ∃ c, d = .str (tx [c]) ∧ c < 1114112 := by
      simp only [List.mem_cons, List.not_mem_nil, or_false] at hd
      rcases hd with rfl | rfl | rfl | rfl
      · exact ⟨97, rfl, by decide⟩
      · exact ⟨98, rfl, by decide⟩
      · exact ⟨97, rfl, by decide⟩
      · exact ⟨10, rfl, by decide⟩
    refine ⟨rfl, by rw [List.length_map]; omega, us ++ [c0], cs', sd', by simp, ⟨by rw [List.length_append, hl]; rfl, fun x hx => ?_⟩, c, e, rfl⟩
    rcases List.mem_append.mp hx with z | z
    · exact ht x z
    · rw [List.mem_singleton.mp z]; exact hc0
  · rintro acc ow ⟨us, cs, sd, rfl, ⟨hl, ht⟩, h1, h2, rfl⟩
    refine ⟨(us.map fun c => [c]).map tx, ?_, ?_, ?_⟩
    · have : (us.map fun c => OE.z (.str (tx [c]))) = ((us.map fun c => [c]).map tx).map fun y => .z (.str y) := by simp [List.map_map]
      rw [← this]
      exact .r rfl
    · rw [one_sum, show ("" : Str).length = 0 from rfl]; omega
    · rw [tx_join]
      have : (us.map fun c => [c]).flatten = us := by
        rw [← List.flatMap_def]; simp
      rw [this]
      refine ⟨2, trivial, by rw [hB]; exact Nat.le_refl 2, ?_, q us cs sd ⟨by omega, ht⟩ h1 h2⟩
      exact stO_cl cs sd
def f__law_edit : DSp := fun xs ow Φ _ => ∃ (cs : List Int) (sd : Int) (t : List Nat), xs = [.r 0, .z (.str (tx t))] ∧ t.length ≤ 1000 ∧ Nn cs ∧ SdOk sd ∧ ow = stO cs sd ∧ ∀ (e : Ed) (cs' : List Int) (sd' : Int), e.fit t → e.u.length ≤ 4 ∧ Tk e.u → Nn cs' → SdOk sd' → Φ (.z e.enc) (stO cs' sd')
theorem p_text {B : Bs} {E : En} {v : Nat} {m : Int} {P : OE → En → Prop} {cs : List Int} {sd : Int} {rest : List OD} (hv : E.sl[v]? = some (some (.r 0))) (how : E.ow = stO cs sd ++ rest) (h1 : Nn cs) (h2 : SdOk sd) (h0 : 0 ≤ m) (hm : m ≤ 1000) (k : ∀ (u : List Nat) (cs' : List Int) (sd' : Int), (u.length : Int) ≤ m ∧ Tk u → Nn cs' → SdOk sd' → P (.z (.str (tx u))) ⟨E.sl, stO cs' sd' ++ rest⟩) : EvP K B (tCall (spD K 2 f__law_text) [] E0 (tCons (tVar v) (tCons (tC (.int m)) tNil))) E P :=
  p_stS (a_cons (p_var hv (a_cons (p_int (a_nil ⟨[.z (.int m)], [.int m], cs, sd, rest, rfl, rfl, rfl, how, fun Φ Ψ kk => ⟨cs, sd, m, rfl, h0, hm, h1, h2, rfl, fun u cs' sd' a b c => kk _ _ _ (k u cs' sd' a b c)⟩⟩)))))
theorem b__law_edit : Body K 3 (t__law_edit K f__law_draw f__law_text) f__law_edit := by
  rintro B xs ow Φ Ψ hB ⟨cs, sd, t, rfl, hl, hcs, hsd, rfl, q⟩
  unfold t__law_edit
  walk_at "zin"
  refine w_seq (w_asgP (p_drawS rfl (p_op (p_len (p_var rfl ⟨_, len_X (by omega), p_int (op_p sc_add ⟨cs, sd, _, [], rfl, by simp, hcs, hsd, by omega, by omega, fun r cs' sd' a b c d => ?_⟩)⟩)))))
  show W _ _ _ ⟨[some (.r 0), some (.z (.str (tx t))), some (.z (.int r))], stO cs' sd'⟩ _
  refine w_retP (p_tup (a_cons (p_var rfl (a_cons (p_drawS rfl (p_op (p_op (p_len (p_var rfl ⟨_, len_X (by omega), p_var rfl (op_p sc_sub (p_int (op_p sc_add ⟨cs', sd', _, [], rfl, by simp, c, d, by omega, by omega, fun n cs2 sd2 a2 b2 c2 d2 => ?_⟩)))⟩)))))))))
  refine a_cons (p_text (rest := []) rfl rfl c2 d2 (by decide) (by decide) fun u cs3 sd3 h5 h6 h7 => a_nil ⟨[.int r, .int n, .str (tx u)], rfl, by simp, ?_⟩)
  exact q ⟨r, n, u⟩ cs3 sd3 ⟨a, a2, by show r + n ≤ t.length; omega⟩ ⟨by show u.length ≤ 4; omega, h5.2⟩ h6 h7
def f__law_after : DSp := fun xs ow Φ _ => ∃ (t : List Nat) (e : Ed), xs = [.z (.str (tx t)), .z e.enc] ∧ t.length ≤ 10000 ∧ e.u.length ≤ 10000 ∧ e.fit t ∧ ow = [] ∧ Φ (.z (.str (tx (e.app t)))) []
theorem b__law_after : Body K 2 (t__law_after K) f__law_after := by
  rintro B xs ow Φ Ψ hB ⟨t, e, rfl, hl, hu, hf, rfl, q⟩
  unfold t__law_after
  walk_at "zin"
  exact w_retP (p_app rfl rfl hl hu hf q rfl)
theorem p_joined {B : Bs} {E : En} {i j : Nat} {tb : TE} {cE : Addr} {t : List Nat} {a b : Ed} {P : OE → En → Prop} {X : XD} {Wx : WX} (xc : XC K B X Wx) (hi : E.sl[i]? = some (some (.z (.str (tx t))))) (hj : E.sl[j]? = some (some (.z a.enc))) (hl : t.length ≤ 500) (ha : a.u.length ≤ 500) (hb : b.u.length ≤ 500)
    (h : EvP K B tb E fun y E1 => y = .z b.enc ∧ (a.fit t → b.fit (a.app t) → P (.z (jn a b t).enc) E1) ∧ ((a.fit t → ¬ b.fit (a.app t)) → X (.ref cE) none E1)) :
    EvP K B (tCallX (spD K 3 (f_joined cE)) Wx (tCons (tVar i) (tCons (tVar j) (tCons tb tNil)))) E P := by
  refine p_c0X xc (a_cons (p_var hi (a_cons (p_var hj (a_cons (p_mono h ?_))))))
  rintro y E1 ⟨rfl, k1, k2⟩
  exact a_nil ⟨[.str (tx t), a.enc, b.enc], rfl, rfl, fun Φ Ψ kk kx => ⟨t, a, b, rfl, hl, ha, hb, rfl, fun h1 h2 => kk _ (k1 h1 h2), fun h => kx _ _ (k2 h)⟩⟩
def f__law_refused : DSp := fun xs ow Φ _ => ∃ (t : List Nat) (e : Ed) (w : Int), xs = [.z (.str (tx t)), .z e.enc, .z (.int w)] ∧ t.length ≤ 500 ∧ e.u.length ≤ 500 ∧ ¬ e.fit t ∧ ow = [] ∧ Φ (.z (.bool true)) []
theorem b__law_refused {cE cS : Addr} (hE : ExcC K cE) (hS : ExcC K cS) (hm : PySem.W.exmOne K (.ref cE) (.ref cE) = some true) (hi : PySem.W.kitOne K (.ref cE) (.ref cS) = some true) : Body K 4 (t__law_refused K cE cS (f_applied cE) (f_inverse_of cE) (f_joined cE)) f__law_refused := by
  rintro B xs ow Φ Ψ hB ⟨t, e, w, rfl, hl, hu, hn, rfl, q⟩
  unfold t__law_refused
  walk_at "zin"
  refine w_seq (w_tryAs (X := fun cls fs E' => cls = .ref cE ∧ fs = none ∧ E' = ⟨[some (.z (.str (tx t))), some (.z e.enc), some (.z (.int w)), none], []⟩) XC.no (fun Wx xc => ?_) ?_)
  · refine w_ifP (t_test (p_op (p_var rfl (p_int (op_p sc_eq ⟨_, rfl, imp_t fun h => ?_, imp_f fun h => ?_⟩)))))
    · exact w_dropP (p_applied xc rfl (by omega) (p_var rfl ⟨e, rfl, by omega, fun hf => absurd hf hn, fun _ => ⟨rfl, rfl, rfl⟩⟩))
    · refine w_ifP (t_test (p_op (p_var rfl (p_int (op_p sc_eq ⟨_, rfl, imp_t fun h => ?_, imp_f fun h => ?_⟩)))))
      · exact w_dropP (p_inverse xc rfl rfl (by omega) (by omega) (fun hf => absurd hf hn) fun _ => ⟨rfl, rfl, rfl⟩)
      · exact w_dropP (p_joined (b := ⟨0, 0, []⟩) xc rfl rfl hl hu (by decide) (p_tup (a_cons (p_int (a_cons (p_int (a_cons (p_str (a_nil ⟨[.int 0, .int 0, .str ""], rfl, by simp, rfl, fun hf => absurd hf hn, fun _ => ⟨rfl, rfl, rfl⟩⟩)))))))))
  · rintro cls fs E' ⟨rfl, rfl, rfl⟩
    refine ⟨true, hm, fun _ a dO hd => ?_, fun z => (nomatch z)⟩
    exact w_retP (p_isX (c := .ref cS) (cv := .ref cS) (fun u h => h) rfl (hd rfl) hE hi rfl q)
def f__law_unjoined : DSp := fun xs ow Φ _ => ∃ (t : List Nat) (a b : Ed), xs = [.z (.str (tx t)), .z a.enc, .z b.enc] ∧ t.length ≤ 500 ∧ a.u.length ≤ 500 ∧ b.u.length ≤ 500 ∧ ¬ b.fit (a.app t) ∧ ow = [] ∧ Φ (.z (.bool true)) []
theorem b__law_unjoined {cE : Addr} (hm : PySem.W.exmOne K (.ref cE) (.ref cE) = some true) : Body K 3 (t__law_unjoined K cE (f_joined cE)) f__law_unjoined := by
  rintro B xs ow Φ Ψ hB ⟨t, a, b, rfl, hl, ha, hb, hn, rfl, q⟩
  unfold t__law_unjoined
  walk_at "zin"
  refine w_seq (w_tryOnly (X := fun cls fs E' => cls = .ref cE ∧ E' = ⟨[some (.z (.str (tx t))), some (.z a.enc), some (.z b.enc)], []⟩) XC.no (fun Wx xc => ?_) ?_)
  · exact w_dropP (p_joined xc rfl rfl hl ha hb (p_var rfl ⟨rfl, fun _ h => absurd h hn, fun _ => ⟨rfl, rfl⟩⟩))
  · rintro cls fs E' ⟨rfl, rfl⟩
    exact ⟨true, hm, fun _ a dO => w_retP (p_bl q), fun z => (nomatch z)⟩
/-! ### plain facts -/
theorem Ed.nat {e : Ed} {t : List Nat} (h : e.fit t) : ∃ k m : Nat, e = ⟨k, m, e.u⟩ ∧ k + m ≤ t.length := by
  obtain ⟨p, n, u⟩ := e
  obtain ⟨h1, h2, h3⟩ := h
  have h1 : 0 ≤ p := h1; have h2 : 0 ≤ n := h2; have h3 : p + n ≤ t.length := h3
  refine ⟨p.toNat, n.toNat, ?_, by omega⟩
  rw [Int.toNat_of_nonneg h1, Int.toNat_of_nonneg h2]
theorem app_nat (k m : Nat) (u t : List Nat) : Ed.app ⟨k, m, u⟩ t = t.take k ++ u ++ t.drop (k + m) := by
  show t.take (Int.toNat k) ++ u ++ t.drop (((k : Int) + m).toNat) = _
  rw [Int.toNat_natCast, show ((k : Int) + m).toNat = k + m by omega]
theorem inv_fit {e : Ed} {t : List Nat} (h : e.fit t) : (e.inv t).fit (e.app t) := by
  have hl := app_len h
  obtain ⟨p, n, u⟩ := e
  obtain ⟨h1, h2, h3⟩ := h
  have h1 : 0 ≤ p := h1; have h2 : 0 ≤ n := h2; have h3 : p + n ≤ t.length := h3
  have hl : ((Ed.app ⟨p, n, u⟩ t).length : Int) = t.length + u.length - n := hl
  refine ⟨h1, ?_, ?_⟩
  · show (0 : Int) ≤ (u.length : Int); omega
  · show p + (u.length : Int) ≤ ((Ed.app ⟨p, n, u⟩ t).length : Int); omega
theorem inv_app {e : Ed} {t : List Nat} (h : e.fit t) : (e.inv t).app (e.app t) = t := by
  obtain ⟨k, m, he, hl⟩ := Ed.nat h
  obtain ⟨p, n, u⟩ := e
  obtain ⟨rfl, rfl⟩ : p = k ∧ n = m := ⟨congrArg Ed.p he, congrArg Ed.n he⟩
  have e1 : (Ed.inv ⟨(k : Int), (m : Int), u⟩ t) = ⟨(k : Int), (u.length : Nat), (t.drop k).take m⟩ := by
    show (⟨(k : Int), (u.length : Int), (t.drop (Int.toNat k)).take (Int.toNat m)⟩ : Ed) = _
    rw [Int.toNat_natCast, Int.toNat_natCast]
  rw [e1, app_nat, app_nat]
  have ht : (t.take k).length = k := by rw [List.length_take]; omega
  have e2 : (t.take k ++ u ++ t.drop (k + m)).take k = t.take k := by
    rw [List.append_assoc]; exact List.take_left' ht
  have e3 : (t.take k ++ u ++ t.drop (k + m)).drop (k + u.length) = t.drop (k + m) := List.drop_left' (by rw [List.length_append, ht])
  rw [e2, e3, List.append_assoc, ← List.drop_drop, List.take_append_drop, List.take_append_drop]
theorem jn_facts {a b : Ed} {t : List Nat} (ha : a.fit t) (hb : b.fit (a.app t)) : (jn a b t).fit t ∧ (jn a b t).app t = b.app (a.app t) := by
  have hal := app_len ha
  obtain ⟨k1, m1, he, hl1⟩ := Ed.nat ha
  obtain ⟨k2, m2, he2, hl2⟩ := Ed.nat hb
  obtain ⟨p1, n1, u1⟩ := a
  obtain ⟨p2, n2, u2⟩ := b
  obtain ⟨rfl, rfl⟩ : p1 = k1 ∧ n1 = m1 := ⟨congrArg Ed.p he, congrArg Ed.n he⟩
  obtain ⟨rfl, rfl⟩ : p2 = k2 ∧ n2 = m2 := ⟨congrArg Ed.p he2, congrArg Ed.n he2⟩
  clear he he2 ha hb
  have hal : ((Ed.app ⟨k1, m1, u1⟩ t).length : Int) = t.length + u1.length - m1 := hal
  generalize hmid : Ed.app ⟨k1, m1, u1⟩ t = mid at hal hl2 ⊢
  obtain ⟨s, hs⟩ : ∃ s : Nat, min (k1 : Int) k2 = s := ⟨(min (k1 : Int) k2).toNat, by omega⟩
  obtain ⟨en, hen⟩ : ∃ s : Nat, max ((k1 : Int) + u1.length) (k2 + m2) = s := ⟨(max ((k1 : Int) + u1.length) (k2 + m2)).toNat, by omega⟩
  have e1 : jst ⟨(k1 : Int), m1, u1⟩ ⟨k2, m2, u2⟩ = s := hs
  have e2 : jen ⟨(k1 : Int), m1, u1⟩ ⟨k2, m2, u2⟩ = en := hen
  have hen1 : k1 + u1.length ≤ en := by omega
  have hen2 : k2 + m2 ≤ en := by omega
  have hs1 : s ≤ k1 := by omega
  have hs2 : s ≤ k2 := by omega
  have hen3 : en ≤ mid.length := by omega
  have hj : jn ⟨(k1 : Int), m1, u1⟩ ⟨k2, m2, u2⟩ t = ⟨(s : Int), ((en - u1.length + m1 - s : Nat) : Int), (mid.drop s).take (k2 - s) ++ u2 ++ (mid.drop (k2 + m2)).take (en - (k2 + m2))⟩ := by
    unfold jn
    rw [hmid, e1, e2]
    have e3 : ((k2 : Int) + m2).toNat = k2 + m2 := by omega
    dsimp only
    rw [Int.toNat_natCast, Int.toNat_natCast, Int.toNat_natCast, e3, show (en : Int) - u1.length + m1 - s = ((en - u1.length + m1 - s : Nat) : Int) by omega]
  rw [hj]
  refine ⟨⟨?_, ?_, ?_⟩, ?_⟩
  · show (0 : Int) ≤ (s : Int); omega
  · show (0 : Int) ≤ ((en - u1.length + m1 - s : Nat) : Int); omega
  · show (s : Int) + ((en - u1.length + m1 - s : Nat) : Int) ≤ t.length; omega
  rw [app_nat, app_nat]
  rw [app_nat] at hmid
  have ht : (t.take k1).length = k1 := by rw [List.length_take]; omega
  have g1 : t.take s = mid.take s := by
    rw [← hmid, List.append_assoc, List.take_append_of_le_length (by omega), List.take_take, Nat.min_eq_left hs1]
  have g2 : t.drop (s + (en - u1.length + m1 - s)) = mid.drop en := by
    obtain ⟨d, hd⟩ : ∃ d, en = k1 + u1.length + d := ⟨en - (k1 + u1.length), by omega⟩
    have q1 : t.drop (k1 + m1 + d) = (t.drop (k1 + m1)).drop d := by rw [List.drop_drop]
    have q2 : mid.drop (k1 + u1.length + d) = (mid.drop (k1 + u1.length)).drop d := by rw [List.drop_drop]
    have q3 : mid.drop (k1 + u1.length) = t.drop (k1 + m1) := by rw [← hmid]; exact List.drop_left' (by rw [List.length_append, ht])
    rw [show s + (en - u1.length + m1 - s) = k1 + m1 + d by omega, hd, q1, q2, q3]
  rw [g1, g2]
  have g3 : mid.take s ++ (mid.drop s).take (k2 - s) = mid.take k2 := by
    conv => rhs; rw [show k2 = s + (k2 - s) by omega]
    rw [List.take_add]
  have g4 : (mid.drop (k2 + m2)).take (en - (k2 + m2)) ++ mid.drop en = mid.drop (k2 + m2) := by
    conv => lhs; rw [show mid.drop en = (mid.drop (k2 + m2)).drop (en - (k2 + m2)) by rw [List.drop_drop]; congr 1; omega]
    rw [List.take_append_drop]
  rw [← List.append_assoc, ← List.append_assoc, g3, List.append_assoc _ _ (mid.drop en), g4]
theorem tk_app {e : Ed} {t : List Nat} (h1 : Tk e.u) (h2 : Tk t) : Tk (e.app t) := fun c hc => by
  rcases List.mem_append.mp hc with z | z
  · rcases List.mem_append.mp z with z | z
    · exact h2 c (List.mem_of_mem_take z)
    · exact h1 c z
  · exact h2 c (List.mem_of_mem_drop z)
theorem tk_mid {t : List Nat} {a b : Nat} (h : Tk t) : Tk ((t.drop a).take b) := fun c hc => h c (List.mem_of_mem_drop (List.mem_of_mem_take hc))
/-- the law's own reckoning of a moved place -/
theorem mv_due {e : Ed} (h : 0 ≤ e.n) (x : Int) (r : Bool) : mv e x r = if e.p + e.n ≤ x ∧ (e.p < x ∨ e.n = 0 ∧ r = true) then x + e.u.length - e.n else if e.p < x then e.p + (if r = true then (e.u.length : Int) else 0) else x := by
  unfold mv
  cases r <;> simp <;> split <;> split <;> (try split) <;> (try split) <;> omega
/-! ### the law -/
theorem p_textL {B : Bs} {E : En} {v : Nat} {m : Int} {P : OE → En → Prop} {cs : List Int} {sd : Int} {rest : List OD} (hv : E.sl[v]? = some (some (.r 1))) (how : E.ow = laO cs sd ++ rest) (h1 : Nn cs) (h2 : SdOk sd) (h0 : 0 ≤ m) (hm : m ≤ 1000) (k : ∀ (u : List Nat) (cs' : List Int) (sd' : Int), (u.length : Int) ≤ m ∧ Tk u → Nn cs' → SdOk sd' → P (.z (.str (tx u))) ⟨E.sl, laO cs' sd' ++ rest⟩) : EvP K B (tCall (spD K 2 f__law_text) [] E0 (tCons (tVar v) (tCons (tC (.int m)) tNil))) E P :=
  p_stL (a_cons (p_var hv (a_cons (p_int (a_nil ⟨[.z (.int m)], [.int m], cs, sd, rest, rfl, rfl, rfl, how, fun Φ Ψ kk => ⟨cs, sd, m, rfl, h0, hm, h1, h2, rfl, fun u cs' sd' a b c => kk _ _ _ (k u cs' sd' a b c)⟩⟩)))))
theorem p_editL {B : Bs} {E : En} {v i : Nat} {t : List Nat} {P : OE → En → Prop} {cs : List Int} {sd : Int} {rest : List OD} (hv : E.sl[v]? = some (some (.r 1))) (hi : E.sl[i]? = some (some (.z (.str (tx t))))) (hl : t.length ≤ 1000) (how : E.ow = laO cs sd ++ rest) (h1 : Nn cs) (h2 : SdOk sd) (k : ∀ (e : Ed) (cs' : List Int) (sd' : Int), e.fit t → e.u.length ≤ 4 ∧ Tk e.u → Nn cs' → SdOk sd' → P (.z e.enc) ⟨E.sl, laO cs' sd' ++ rest⟩) : EvP K B (tCall (spD K 2 f__law_edit) [] E0 (tCons (tVar v) (tCons (tVar i) tNil))) E P :=
  p_stL (a_cons (p_var hv (a_cons (p_var hi (a_nil ⟨[.z (.str (tx t))], [.str (tx t)], cs, sd, rest, rfl, rfl, rfl, how, fun Φ Ψ kk => ⟨cs, sd, t, rfl, hl, h1, h2, rfl, fun e cs' sd' a b c d => kk _ _ _ (k e cs' sd' a b c d)⟩⟩)))))
theorem p_after {B : Bs} {E : En} {i j : Nat} {t : List Nat} {e : Ed} {P : OE → En → Prop} (hi : E.sl[i]? = some (some (.z (.str (tx t))))) (hj : E.sl[j]? = some (some (.z e.enc))) (hl : t.length ≤ 10000) (hu : e.u.length ≤ 10000) (hf : e.fit t) (k : P (.z (.str (tx (e.app t)))) E) : EvP K B (tCall (spD K 2 f__law_after) [] E0 (tCons (tVar i) (tCons (tVar j) tNil))) E P :=
  p_c0 (a_cons (p_var hi (a_cons (p_var hj (a_nil ⟨[.str (tx t), e.enc], rfl, rfl, fun Φ Ψ kk => ⟨t, e, rfl, hl, hu, hf, rfl, kk _ k⟩⟩)))))
theorem p_common {B : Bs} {E : En} {ta tb : TE} {P : OE → En → Prop} (h : EvP K B ta E fun x E1 => EvP K B tb E1 fun y E2 => ∃ a b : List Nat, x = .z (.str (tx a)) ∧ y = .z (.str (tx b)) ∧ a.length ≤ 1000 ∧ b.length ≤ 1000 ∧ P (.z (.int (cpl a b))) E2) : EvP K B (tCall (spD K 2 f__law_common) [] E0 (tCons ta (tCons tb tNil))) E P :=
  p_c0 (a_cons (p_mono h fun x E1 h1 => a_cons (p_mono h1 fun y E2 ⟨a, b, ex, ey, ha, hb, k⟩ => by
    subst ex; subst ey
    exact a_nil ⟨[.str (tx a), .str (tx b)], rfl, rfl, fun Φ Ψ kk => ⟨a, b, rfl, ha, hb, rfl, kk _ k⟩⟩)))
/-- five edits that don't fit -/
theorem p_bads {B : Bs} {E : En} {v i : Nat} {t : List Nat} {P : OE → En → Prop} {cs : List Int} {sd : Int} {rest : List OD} (hv : E.sl[v]? = some (some (.r 1))) (hi : ∀ cs sd, (⟨E.sl, laO cs sd ++ rest⟩ : En).sl[i]? = some (some (.z (.str (tx t))))) (hl : t.length ≤ 1000) (how : E.ow = laO cs sd ++ rest) (h1 : Nn cs) (h2 : SdOk sd) (k : ∀ (e : Ed) (cs' : List Int) (sd' : Int), ¬ e.fit t → e.u.length ≤ 4 → Nn cs' → SdOk sd' → P (.z e.enc) ⟨E.sl, laO cs' sd' ++ rest⟩) :
    EvP K B (tCall (spD K 2 f__law_pick) [] E0 (tCons (tVar v) (tCons (tLst (tCons (tTup (tCons (tUn rNegI (tC (.int 1))) (tCons (tC (.int 0)) (tCons (tC (.str "a")) tNil)))) (tCons (tTup (tCons (tC (.int 0)) (tCons (tUn rNegI (tC (.int 1))) (tCons (tC (.str "")) tNil)))) (tCons (tTup (tCons (tOp (rAddU K) (tCB (rLenU K) (tCons (tVar i) tNil)) (tC (.int 1))) (tCons (tC (.int 0)) (tCons (tC (.str "")) tNil)))) (tCons (tTup (tCons (tCB (rLenU K) (tCons (tVar i) tNil)) (tCons (tC (.int 1)) (tCons (tC (.str "b")) tNil)))) (tCons (tTup (tCons (tC (.int 0)) (tCons (tOp (rAddU K) (tCB (rLenU K) (tCons (tVar i) tNil)) (tC (.int 1))) (tCons (tC (.str "")) tNil)))) tNil)))))) tNil))) E P := by
  have hi : E.sl[i]? = some (some (.z (.str (tx t)))) := hi cs sd
  refine p_pickL hv (p_lstZ (a_cons (p_tupz (a_cons (p_neg (p_int ⟨_, rfl, a_cons (p_int (a_cons (p_str (a_nil ⟨_, rfl, by simp, ?_⟩))))⟩))))))
  refine a_cons (p_tupz (a_cons (p_int (a_cons (p_neg (p_int ⟨_, rfl, a_cons (p_str (a_nil ⟨_, rfl, by simp, ?_⟩))⟩))))))
  refine a_cons (p_tupz (a_cons (p_op (p_len (p_var hi ⟨_, len_X (by omega), p_int (op_p sc_add (a_cons (p_int (a_cons (p_str (a_nil ⟨_, rfl, by simp, ?_⟩))))))⟩)))))
  refine a_cons (p_tupz (a_cons (p_len (p_var hi ⟨_, len_X (by omega), a_cons (p_int (a_cons (p_str (a_nil ⟨_, rfl, by simp, ?_⟩))))⟩))))
  refine a_cons (p_tupz (a_cons (p_int (a_cons (p_op (p_len (p_var hi ⟨_, len_X (by omega), p_int (op_p sc_add (a_cons (p_str (a_nil ⟨_, rfl, by simp, ?_⟩))))⟩)))))))
  refine a_nil ⟨_, rfl, by simp, cs, sd, _, rest, .l, how, h1, h2, by simp, by simp, fun d hd cs' sd' c e => ?_⟩
  obtain ⟨b, rfl, hb, hu⟩ : ∃ b : Ed, d = b.enc ∧ (¬ b.fit t) ∧ b.u.length ≤ 4 := by
    simp only [List.mem_cons, List.not_mem_nil, or_false] at hd
    rcases hd with rfl | rfl | rfl | rfl | rfl
    · exact ⟨⟨-1, 0, [97]⟩, rfl, fun ⟨a, b, c⟩ => by (have a : (0 : Int) ≤ -1 := a); omega, by decide⟩
    · exact ⟨⟨0, -1, []⟩, rfl, fun ⟨a, b, c⟩ => by (have a : (0 : Int) ≤ -1 := b); omega, by decide⟩
    · exact ⟨⟨t.length + 1, 0, []⟩, rfl, fun ⟨a, b, c⟩ => by (have a : (t.length : Int) + 1 + 0 ≤ t.length := c); omega, by simp⟩
    · exact ⟨⟨t.length, 1, [98]⟩, rfl, fun ⟨a, b, c⟩ => by (have a : (t.length : Int) + 1 ≤ t.length := c); omega, by simp⟩
    · exact ⟨⟨0, t.length + 1, []⟩, rfl, fun ⟨a, b, c⟩ => by (have a : 0 + ((t.length : Int) + 1) ≤ t.length := c); omega, by simp⟩
  exact k b cs' sd' hb hu c e
def f_law : DSp := fun xs ow Φ _ => ∃ ns : List Int, xs = [.z (.list (ns.map .int))] ∧ ns.length ≤ 63 ∧ ow = [] ∧ Φ (.z (.bool true)) []
theorem b_law {cE : Addr} : Body K 18 (t_law K f__law_state f__law_text f__law_edit f__law_after f__law_pick (f_joined cE) f_difference f__law_common f__law_refused f__law_unjoined (f_applied cE) (f_inverse_of cE) f__law_draw f_moved) f_law := by
  rintro B xs ow Φ Ψ hB ⟨ns, rfl, hns, rfl, q⟩
  unfold t_law
  walk_at "zin"
  refine w_seq (w_asgP (p_state rfl hns fun cs sd h1 h2 => ?_))
  show W _ _ _ _ _
  walk_at "zset"
  refine w_seq (w_asgP (p_textL (rest := []) rfl rfl h1 h2 (by decide) (by decide) fun t cs sd ⟨ht, htk⟩ h1 h2 => ?_))
  show W _ _ _ _ _
  walk_at "zset"
  refine w_seq (w_asgP (p_editL (rest := []) rfl rfl (by omega) rfl h1 h2 fun e cs sd he ⟨hu, hek⟩ h1 h2 => ?_))
  show W _ _ _ _ _
  walk_at "zset"
  refine w_seq (w_asgP (p_after rfl rfl (by omega) (by omega) he ?_))
  show W _ _ _ _ _
  walk_at "zset"
  have hml := app_len he
  have hn0 : 0 ≤ e.n := he.2.1
  refine w_seq (w_asgP (p_editL (rest := []) rfl rfl (by omega) rfl h1 h2 fun f cs sd hf ⟨hfu, hfk⟩ h1 h2 => ?_))
  show W _ _ _ _ _
  walk_at "zset"
  have hfl := app_len hf
  have hfn0 : 0 ≤ f.n := hf.2.1
  refine w_seq (w_asgP (p_after rfl rfl (by omega) (by omega) hf ?_))
  show W _ _ _ _ _
  walk_at "zset"
  have hil : (e.inv t).u.length ≤ 1000 := by
    show ((t.drop e.p.toNat).take e.n.toNat).length ≤ 1000
    rw [List.length_take, List.length_drop]; omega
  refine w_seq (w_ifP (t_or (t_test (p_op (p_applied XC.no rfl (by omega) (p_var rfl ⟨e, rfl, by omega, fun _ => p_var rfl (op_p sc_neX ⟨_, rfl, imp_nt fun z => absurd rfl z, imp_nf fun _ => ?_⟩), fun z => z he⟩))))))
  refine t_test (p_op (p_applied XC.no rfl (by omega) (p_inverse XC.no rfl rfl (by omega) (by omega) (fun _ => ⟨e.inv t, rfl, hil, fun _ => p_var rfl (op_p sc_neX ⟨_, rfl, imp_nt fun z => absurd (inv_app he) z, imp_nf fun _ => w_next ?_⟩), fun z => z (inv_fit he)⟩) fun z => z he)))
  refine w_seq (w_ifP (t_test (p_op (p_sliceT (p_inverse XC.no rfl rfl (by omega) (by omega) (fun _ => o_none (o_some (p_int ⟨_, rfl, _, rfl, ?_⟩))) fun z => z he)))))
  refine p_tupz (a_cons (p_prt (j := 0) rfl rfl rfl (a_cons (p_len (p_prt (j := 2) rfl rfl rfl ⟨_, len_X (by omega), a_nil ⟨_, rfl, by simp, op_p (sc_neD' (sh_ii _ _) (sh_ii _ _)) ⟨_, rfl, ?_, fun _ => w_next ?_⟩⟩⟩)))))
  · intro z
    exfalso
    have z : (!PyData.eqv (.tuple [.int e.p, .int e.u.length]) (.tuple [.int e.p, .int e.u.length])) = true := z
    rw [eqv_sh (sh_ii e.p e.u.length)] at z
    exact absurd z (by decide)
  refine w_seq (w_asgP (p_bads (rest := []) rfl (fun _ _ => rfl) (by omega) rfl h1 h2 fun bad cs sd hb hbu h1 h2 => ?_))
  show W _ _ _ _ _
  walk_at "zset"
  refine w_seq (w_ifNot (p_c0 (a_cons (p_var rfl (a_cons (p_var rfl (a_cons (p_drawL rfl (p_int ⟨cs, sd, 3, [], rfl, rfl, h1, h2, by decide, by decide, fun w cs sd _ _ h1 h2 => a_nil ⟨[.str (tx t), bad.enc, .int w], rfl, rfl, fun Φ' Ψ' kk => ⟨t, bad, w, rfl, by omega, by omega, hb, rfl, kk _ ⟨rfl, w_next ?_⟩⟩⟩⟩)))))))))
  refine w_seq (w_asgP (p_bads (rest := []) rfl (fun _ _ => rfl) (by omega) rfl h1 h2 fun worse cs sd hw hwu h1 h2 => ?_))
  show W _ _ _ _ _
  walk_at "zset"
  refine w_seq (w_ifNot (p_c0 (a_cons (p_var rfl (a_cons (p_var rfl (a_cons (p_var rfl (a_nil ⟨[.str (tx t), e.enc, worse.enc], rfl, rfl, fun Φ' Ψ' kk => ⟨t, e, worse, rfl, by omega, by omega, by omega, hw, rfl, kk _ ⟨rfl, w_next ?_⟩⟩⟩)))))))))
  refine w_seq (w_asgP (p_joined XC.no rfl rfl (by omega) (by omega) (by omega) (p_var rfl ⟨rfl, fun _ _ => ?_, fun z => z he hf⟩)))
  show W _ _ _ _ _
  walk_at "zset"
  obtain ⟨jf, ja⟩ := jn_facts he hf
  refine w_seq (w_asgP (p_min2 (p_prt (j := 0) rfl rfl rfl (p_prt (j := 0) rfl rfl rfl ⟨_, _, rfl, rfl, ?_⟩))))
  show W _ _ _ _ _
  walk_at "zset"
  refine w_seq (w_asgP (p_max2 (p_op (p_prt (j := 0) rfl rfl rfl (p_len (p_prt (j := 2) rfl rfl rfl ⟨_, len_X (by omega), op_p sc_add (p_op (p_prt (j := 0) rfl rfl rfl (p_prt (j := 1) rfl rfl rfl (op_p sc_add ⟨_, _, rfl, rfl, ?_⟩))))⟩))))))
  show W _ _ _ _ _
  walk_at "zset"
  have hju : (jn e f t).u.length ≤ 10000 := by
    have := app_len jf
    rw [ja] at this
    have := jf.2.1; have := jf.2.2; have := jf.1
    omega
  refine w_seq (w_ifP (t_or (t_test (p_op (p_prt (j := 0) rfl rfl rfl (p_var rfl (op_p sc_ne ⟨_, rfl, imp_nt fun z => absurd rfl z, imp_nf fun _ => ?_⟩)))))))
  refine t_or (t_test (p_op (p_prt (j := 1) rfl rfl rfl (p_op (p_op (p_op (p_var rfl (p_len (p_prt (j := 2) rfl rfl rfl ⟨_, len_X (by omega), op_p sc_sub (p_prt (j := 1) rfl rfl rfl (op_p sc_add (p_var rfl (op_p sc_sub (op_p sc_ne ⟨_, rfl, imp_nt fun z => absurd rfl z, imp_nf fun _ => ?_⟩)))))⟩)))))))))
  refine t_test (p_op (p_after rfl rfl (by omega) hju jf (p_var rfl (op_p sc_neX ⟨_, rfl, imp_nt fun z => absurd ja z, imp_nf fun _ => w_next ?_⟩))))
  refine w_seq (w_asgP (p_c0 (a_cons (p_var rfl (a_cons (p_var rfl (a_nil ⟨[.str (tx t), .str (tx (f.app (e.app t)))], rfl, rfl, fun Φ' Ψ' kk => ⟨t, _, rfl, by omega, by omega, rfl, kk _ ?_⟩⟩)))))))
  show W _ _ _ _ _
  walk_at "zset"
  have hlk : Tk (f.app (e.app t)) := tk_app hfk (tk_app hek htk)
  generalize hlast : f.app (e.app t) = last at *
  refine w_seq (w_asgP (p_common (p_var rfl (p_var rfl ⟨t, last, rfl, rfl, by omega, by omega, ?_⟩))))
  show W _ _ _ _ _
  walk_at "zset"
  have hc := cpl_le t last
  refine w_seq (w_asgP (p_common (p_revX (p_cutX (p_var rfl (o_some (p_var rfl ⟨_, rfl, o_none ⟨t, rfl, by omega, _, rfl, ?_, ?_⟩⟩)))))))
  · rw [cutL_drop, List.length_drop]; omega
  rw [cutL_drop]
  refine p_revX (p_cutX (p_var rfl (o_some (p_var rfl ⟨_, rfl, o_none ⟨last, rfl, by omega, _, rfl, ?_, _, _, rfl, rfl, ?_, ?_, ?_⟩⟩))))
  · rw [cutL_drop, List.length_drop]; omega
  · rw [List.length_reverse, List.length_drop]; omega
  · rw [cutL_drop, List.length_reverse, List.length_drop]; omega
  rw [cutL_drop]
  show W _ _ _ _ _
  walk_at "zset"
  have hc2 := cpl_le (t.drop (cpl t last)).reverse (last.drop (cpl t last)).reverse
  rw [List.length_reverse, List.length_reverse, List.length_drop, List.length_drop] at hc2
  generalize hT : cpl (t.drop (cpl t last)).reverse (last.drop (cpl t last)).reverse = T at hc2 ⊢
  refine w_seq (w_ifP (t_test (p_op (p_var rfl (p_tupz (a_cons (p_var rfl (a_cons (p_op (p_op (p_len (p_var rfl ⟨_, len_X (by omega), p_var rfl (op_p sc_sub (p_var rfl (op_p sc_sub ?_)))⟩))))))))))))
  refine a_cons (p_cutX (p_var rfl (o_some (p_var rfl ⟨_, rfl, o_some (p_op (p_len (p_var rfl ⟨_, len_X (by omega), p_var rfl (op_p sc_sub ⟨((last.length - T : Nat) : Int), by rw [show (last.length : Int) - T = ((last.length - T : Nat) : Int) by omega], last, rfl, by omega, a_nil ⟨_, rfl, by simp, op_p (sc_neD' (sh_iix _ _ (tk_mid hlk)) (sh_iix _ _ (by rw [cutL_mid last (by omega) (by omega)]; exact tk_mid hlk))) ⟨_, rfl, ?_, fun _ => w_next ?_⟩⟩⟩)⟩)))⟩))))
  · rw [cutL_mid last (by omega) (by omega)]
    have hd : (dif t last).enc = .tuple [.int (cpl t last), .int ((t.length : Int) - cpl t last - T), .str (tx ((last.drop (cpl t last)).take (last.length - T - cpl t last)))] := by
      unfold dif
      rw [hT]
      rfl
    rw [hd, eqv_sh (sh_iix _ _ (tk_mid hlk))]
    intro z
    exact absurd z (by decide)
  have kp : ∀ {a b : Option OE}, (b = none ∨ a = b) → (b = none ∨ a = b) := fun h => h
  refine w_forget (sl' := [none, none, some (.z (.str (tx t))), some (.z e.enc), none, none, none, none, none, none, none, none, none, none, none, none, none, none]) (.cons (.inl rfl) (.cons (.inl rfl) (.cons (.inr rfl) (.cons (.inr rfl) (.cons (.inl rfl) (.cons (.inl rfl) (.cons (.inl rfl) (.cons (.inl rfl) (.cons (.inl rfl) (.cons (.inl rfl) (.cons (.inl rfl) (.cons (.inl rfl) (.cons (.inl rfl) (.cons (.inl rfl) (.cons (.inl rfl) (.cons (.inl rfl) (.cons (.inl rfl) (.cons (.inl rfl) .nil)))))))))))))))))) ?_
  have st : ∀ {Q : En → Prop} (a b c : Option OE), Q ⟨[none, none, some (.z (.str (tx t))), some (.z e.enc), none, none, none, none, none, none, none, none, none, none, none, a, b, c], laO cs sd ++ []⟩ → Q ⟨[none, none, some (.z (.str (tx t))), some (.z e.enc), none, none, none, none, none, none, none, none, none, none, none, a, b, c], laO cs sd ++ []⟩ := fun _ _ _ h => h
  refine w_seq (w_rng (fun k E' => ∃ a b c : Option OE, E' = ⟨[none, none, some (.z (.str (tx t))), some (.z e.enc), none, none, none, none, none, none, none, none, none, none, none, a, b, c], laO cs sd ++ []⟩) (p_op (p_len (p_var rfl ⟨_, len_X (by omega), p_int (op_p sc_add ⟨rfl, by omega, ⟨none, none, none, rfl⟩, ?_, ?_⟩)⟩))))
  · rintro B2 hB2 k E' hk ⟨a, b, c, rfl⟩
    walk_at "zset"
    refine w_forP (i_list (p_lstZ (a_cons (p_bl (a_cons (p_bl (a_nil ⟨_, rfl, by simp, _, .z, fo_list (fun r E' => ∃ b c : Option OE, E' = ⟨[none, none, some (.z (.str (tx t))), some (.z e.enc), none, none, none, none, none, none, none, none, none, none, none, some (.z (.int k)), b, c], laO cs sd ++ []⟩) ⟨b, c, rfl⟩ (fun r E' ⟨b, c, e⟩ => by subst e; exact .z) ?_ ?_⟩)))))))
    · rintro B3 hB3 r y E' hy ⟨b, c, rfl⟩
      obtain ⟨v, rfl⟩ : ∃ v : Bool, y = .z (.bool v) := by
        have := List.mem_of_getElem? hy
        simp at this
        rcases this with h | h
        · exact ⟨_, h⟩
        · exact ⟨_, h⟩
      walk_at "zset"
      refine w_seq (w_asgP (p_var rfl ?_))
      show W _ _ _ _ _
      walk_at "zset"
      have fin : ∀ (D2 : Dn) (d : Int), d = mv e k v → D2.nx ⟨[none, none, some (.z (.str (tx t))), some (.z e.enc), none, none, none, none, none, none, none, none, none, none, none, some (.z (.int k)), some (.z (.bool v)), some (.z (.int d))], laO cs sd ++ []⟩ → W K B3 (tIfS (tTest (tOp (rNeU K) (tCall (spD K 3 f_moved) [] E0 (tCons (tVar 3) (tCons (tVar 15) (tCons (tVar 16) tNil)))) (tVar 17))) (tRet (tC (.bl false))) tNext)
          ⟨[none, none, some (.z (.str (tx t))), some (.z e.enc), none, none, none, none, none, none, none, none, none, none, none, some (.z (.int k)), some (.z (.bool v)), some (.z (.int d))], laO cs sd ++ []⟩ D2 := by
        rintro D2 d rfl hD
        exact w_ifP (t_test (p_op (p_c0 (a_cons (p_var rfl (a_cons (p_var rfl (a_cons (p_var rfl (a_nil ⟨[e.enc, .int k, .bool v], rfl, rfl, fun Φ' Ψ' kk => ⟨e, k, v, rfl, by omega, rfl, kk _ (p_var rfl (op_p sc_ne ⟨_, rfl, imp_nt fun z => absurd rfl z, imp_nf fun _ => w_next hD⟩))⟩⟩))))))))))
      have due := mv_due hn0 k v
      have hule : e.u.length ≤ 100000 := by omega
      refine w_seq (w_ifP (t_andP (p := e.p + e.n ≤ k) (q := e.p < k ∨ e.n = 0 ∧ v = true) (fun PT k => t_test (p_op (p_var rfl (p_op (p_prt (j := 0) rfl rfl rfl (p_prt (j := 1) rfl rfl rfl (op_p sc_add (op_p sc_ge ⟨_, rfl, k⟩)))))))) (fun _ PT k => t_orP (p := e.p < _) (q := e.n = 0 ∧ v = true) (fun PT k => t_test (p_op (p_var rfl (p_prt (j := 0) rfl rfl rfl (op_p sc_gt ⟨_, rfl, k⟩))))) (fun PT k => t_andP (p := e.n = 0) (q := v = true) (fun PT k => t_test (p_op (p_prt (j := 1) rfl rfl rfl (p_int (op_p sc_eq ⟨_, rfl, k⟩))))) (fun _ PT k => t_bool rfl ?_) k) k) ⟨imp_t fun h => ?_, imp_f fun h => ?_⟩))
      · cases v
        · exact k
        · exact k
      · rw [if_pos h] at due
        refine w_asgP (p_op (p_op (p_var rfl (p_len (p_prt (j := 2) rfl rfl rfl ⟨_, len_X hule, op_p sc_add (p_prt (j := 1) rfl rfl rfl (op_p sc_sub ?_))⟩)))))
        exact fin _ _ due.symm ⟨_, _, rfl⟩
      rw [if_neg h] at due
      refine w_ifP (t_test (p_op (p_var rfl (p_prt (j := 0) rfl rfl rfl (op_p sc_gt ⟨_, rfl, imp_t fun h => ?_, imp_f fun h => w_next ?_⟩)))))
      · rw [if_pos h] at due
        refine w_asgP (p_op (p_prt (j := 0) rfl rfl rfl (p_ix (p_lstZ (a_cons (p_int (a_cons (p_len (p_prt (j := 2) rfl rfl rfl ⟨_, len_X hule, a_nil ⟨_, rfl, by simp, p_int1 (p_var rfl (.inr ⟨v, rfl, ?_⟩))⟩⟩)))))))))
        cases v
        · exact ⟨0, _, rfl, .l .z (atI_nat (j := 0) rfl), op_p sc_add (fin _ _ due.symm ⟨_, _, rfl⟩)⟩
        · exact ⟨1, _, rfl, .l .z (atI_nat (j := 1) rfl), op_p sc_add (fin _ _ due.symm ⟨_, _, rfl⟩)⟩
      · rw [if_neg h] at due
        exact fin _ _ due.symm ⟨_, _, rfl⟩
    · rintro E' ⟨b, c, rfl⟩
      exact ⟨_, _, _, rfl⟩
  · rintro E' ⟨a, b, c, rfl⟩
    exact w_retF (p_bl ⟨.bool true, 0, rfl, by rw [hB]; exact Nat.le_refl _, by simp, q⟩)
theorem law_pre {ns : List Int} (hl : ns.length ≤ 63) (hb : ∀ z ∈ ns, Builtin.Int.intBits z ≤ 1048576) {Φ : OE → List OD → Prop} {Ψ : Value → Xf → List OD → Prop} (k : Φ (.z (.bool true)) []) : f_law [.z (.list (ns.map .int))] [] Φ Ψ := ⟨ns, rfl, hl, rfl, k⟩
end
section
variable {P : Program} {w : World} {K : PySem.W.Frag} {mg : Str → Option Value} {base : Heap}
theorem ok_check_edit {c_ScribeError c_EditError : Addr}{f : Addr} {fd : FuncData} (bn : Bn mg) (C : Cn K mg c_ScribeError c_EditError) (T : Fun K "check_edit" "check_edit" s_check_edit f fd) :
    FnOk P w K mg base (L2.CX P w) (0 + 1) f fd ["text", "edit"] (spD K 2 (f_check_edit c_EditError)) := by
  refine fn_okX T sc_check_edit fun cdv A outer s H E hr => ⟨_, fun Wx tk => d_check_edit bn C hr tk, ?_⟩
  exact b_check_edit
theorem ok_applied {c_ScribeError c_EditError : Addr}{f : Addr} {fd : FuncData} (bn : Bn mg) (C : Cn K mg c_ScribeError c_EditError) (T : Fun K "applied" "applied" s_applied f fd) (h_check_edit : Has P w K mg base (L2.CX P w) 1 "check_edit" ["text", "edit"] (f_check_edit c_EditError)) :
    FnOk P w K mg base (L2.CX P w) (1 + 1) f fd ["text", "edit"] (spD K 2 (f_applied c_EditError)) := by
  refine fn_okX T sc_applied fun cdv A outer s H E hr => ⟨_, fun Wx tk => d_applied bn C hr (h_check_edit := h_check_edit) (l_check_edit := by decide) tk, ?_⟩
  exact b_applied
theorem ok_inverse_of {c_ScribeError c_EditError : Addr}{f : Addr} {fd : FuncData} (bn : Bn mg) (C : Cn K mg c_ScribeError c_EditError) (T : Fun K "inverse_of" "inverse_of" s_inverse_of f fd) (h_check_edit : Has P w K mg base (L2.CX P w) 1 "check_edit" ["text", "edit"] (f_check_edit c_EditError)) :
    FnOk P w K mg base (L2.CX P w) (1 + 1) f fd ["text", "edit"] (spD K 2 (f_inverse_of c_EditError)) := by
  refine fn_okX T sc_inverse_of fun cdv A outer s H E hr => ⟨_, fun Wx tk => d_inverse_of bn C hr (h_check_edit := h_check_edit) (l_check_edit := by decide) tk, ?_⟩
  exact b_inverse_of
theorem ok_moved {c_ScribeError c_EditError : Addr}{f : Addr} {fd : FuncData} (bn : Bn mg) (C : Cn K mg c_ScribeError c_EditError) (T : Fun K "moved" "moved" s_moved f fd) :
    FnOk P w K mg base CX0 (0 + 1) f fd ["edit", "position", "right"] (spD K 3 f_moved) := by
  refine fn_ok T sc_moved fun cdv A outer s H E hr => ⟨_, d_moved bn C hr, ?_⟩
  exact b_moved
theorem ok_joined {c_ScribeError c_EditError : Addr}{f : Addr} {fd : FuncData} (bn : Bn mg) (C : Cn K mg c_ScribeError c_EditError) (T : Fun K "joined" "joined" s_joined f fd) (h_applied : Has P w K mg base (L2.CX P w) 2 "applied" ["text", "edit"] (f_applied c_EditError)) (h_check_edit : Has P w K mg base (L2.CX P w) 1 "check_edit" ["text", "edit"] (f_check_edit c_EditError)) :
    FnOk P w K mg base (L2.CX P w) (2 + 1) f fd ["text", "first", "second"] (spD K 3 (f_joined c_EditError)) := by
  refine fn_okX T sc_joined fun cdv A outer s H E hr => ⟨_, fun Wx tk => d_joined bn C hr (h_applied := h_applied) (l_applied := by decide) (h_check_edit := h_check_edit) (l_check_edit := by decide) tk, ?_⟩
  exact b_joined
theorem ok_difference {c_ScribeError c_EditError : Addr}{f : Addr} {fd : FuncData} (bn : Bn mg) (C : Cn K mg c_ScribeError c_EditError) (T : Fun K "difference" "difference" s_difference f fd) :
    FnOk P w K mg base CX0 (0 + 1) f fd ["first", "second"] (spD K 2 f_difference) := by
  refine fn_ok T sc_difference fun cdv A outer s H E hr => ⟨_, d_difference bn C hr, ?_⟩
  exact b_difference
theorem ok__law_state {c_ScribeError c_EditError : Addr}{f : Addr} {fd : FuncData} (bn : Bn mg) (C : Cn K mg c_ScribeError c_EditError) (T : Fun K "_law_state" "_law_state" s__law_state f fd) :
    FnOk P w K mg base CX0 (0 + 1) f fd ["script"] (spD K 1 f__law_state) := by
  refine fn_ok T sc__law_state fun cdv A outer s H E hr => ⟨_, d__law_state bn C hr, ?_⟩
  exact b__law_state
theorem ok__law_draw {c_ScribeError c_EditError : Addr}{f : Addr} {fd : FuncData} (bn : Bn mg) (C : Cn K mg c_ScribeError c_EditError) (T : Fun K "_law_draw" "_law_draw" s__law_draw f fd) :
    FnOk P w K mg base CX0 (0 + 1) f fd ["state", "many"] (spD K 2 f__law_draw) := by
  refine fn_ok T sc__law_draw fun cdv A outer s H E hr => ⟨_, d__law_draw bn C hr, ?_⟩
  exact b__law_draw
theorem ok__law_pick {c_ScribeError c_EditError : Addr}{f : Addr} {fd : FuncData} (bn : Bn mg) (C : Cn K mg c_ScribeError c_EditError) (T : Fun K "_law_pick" "_law_pick" s__law_pick f fd) (h__law_draw : Has P w K mg base CX0 1 "_law_draw" ["state", "many"] f__law_draw) :
    FnOk P w K mg base CX0 (1 + 1) f fd ["state", "row"] (spD K 2 f__law_pick) := by
  refine fn_ok T sc__law_pick fun cdv A outer s H E hr => ⟨_, d__law_pick bn C hr (h__law_draw := h__law_draw) (l__law_draw := by decide), ?_⟩
  exact b__law_pick
theorem ok__law_text {c_ScribeError c_EditError : Addr}{f : Addr} {fd : FuncData} (bn : Bn mg) (C : Cn K mg c_ScribeError c_EditError) (T : Fun K "_law_text" "_law_text" s__law_text f fd) (h__law_pick : Has P w K mg base CX0 2 "_law_pick" ["state", "row"] f__law_pick) (h__law_draw : Has P w K mg base CX0 1 "_law_draw" ["state", "many"] f__law_draw) :
    FnOk P w K mg base CX0 (2 + 1) f fd ["state", "longest"] (spD K 2 f__law_text) := by
  refine fn_ok T sc__law_text fun cdv A outer s H E hr => ⟨_, d__law_text bn C hr (h__law_pick := h__law_pick) (l__law_pick := by decide) (h__law_draw := h__law_draw) (l__law_draw := by decide), ?_⟩
  exact b__law_text
theorem ok__law_edit {c_ScribeError c_EditError : Addr}{f : Addr} {fd : FuncData} (bn : Bn mg) (C : Cn K mg c_ScribeError c_EditError) (T : Fun K "_law_edit" "_law_edit" s__law_edit f fd) (h__law_draw : Has P w K mg base CX0 1 "_law_draw" ["state", "many"] f__law_draw) (h__law_text : Has P w K mg base CX0 3 "_law_text" ["state", "longest"] f__law_text) :
    FnOk P w K mg base CX0 (3 + 1) f fd ["state", "text"] (spD K 2 f__law_edit) := by
  refine fn_ok T sc__law_edit fun cdv A outer s H E hr => ⟨_, d__law_edit bn C hr (h__law_draw := h__law_draw) (l__law_draw := by decide) (h__law_text := h__law_text) (l__law_text := by decide), ?_⟩
  exact b__law_edit
theorem ok__law_refused {c_ScribeError c_EditError : Addr}{f : Addr} {fd : FuncData} (bn : Bn mg) (C : Cn K mg c_ScribeError c_EditError) (T : Fun K "_law_refused" "_law_refused" s__law_refused f fd) (h_applied : Has P w K mg base (L2.CX P w) 2 "applied" ["text", "edit"] (f_applied c_EditError)) (h_inverse_of : Has P w K mg base (L2.CX P w) 2 "inverse_of" ["text", "edit"] (f_inverse_of c_EditError)) (h_joined : Has P w K mg base (L2.CX P w) 3 "joined" ["text", "first", "second"] (f_joined c_EditError)) :
    FnOk P w K mg base CX0 (3 + 1) f fd ["text", "edit", "way"] (spD K 3 f__law_refused) := by
  refine fn_ok T sc__law_refused fun cdv A outer s H E hr => ⟨_, d__law_refused bn C hr (h_applied := h_applied) (l_applied := by decide) (h_inverse_of := h_inverse_of) (l_inverse_of := by decide) (h_joined := h_joined) (l_joined := by decide), ?_⟩
  exact b__law_refused C.e_EditError C.e_ScribeError C.m_EditError_EditError C.i_EditError_ScribeError
theorem ok__law_unjoined {c_ScribeError c_EditError : Addr}{f : Addr} {fd : FuncData} (bn : Bn mg) (C : Cn K mg c_ScribeError c_EditError) (T : Fun K "_law_unjoined" "_law_unjoined" s__law_unjoined f fd) (h_joined : Has P w K mg base (L2.CX P w) 3 "joined" ["text", "first", "second"] (f_joined c_EditError)) :
    FnOk P w K mg base CX0 (3 + 1) f fd ["text", "first", "second"] (spD K 3 f__law_unjoined) := by
  refine fn_ok T sc__law_unjoined fun cdv A outer s H E hr => ⟨_, d__law_unjoined bn C hr (h_joined := h_joined) (l_joined := by decide), ?_⟩
  exact b__law_unjoined C.m_EditError_EditError
theorem ok__law_after {c_ScribeError c_EditError : Addr}{f : Addr} {fd : FuncData} (bn : Bn mg) (C : Cn K mg c_ScribeError c_EditError) (T : Fun K "_law_after" "_law_after" s__law_after f fd) :
    FnOk P w K mg base CX0 (0 + 1) f fd ["text", "edit"] (spD K 2 f__law_after) := by
  refine fn_ok T sc__law_after fun cdv A outer s H E hr => ⟨_, d__law_after bn C hr, ?_⟩
  exact b__law_after
theorem ok__law_common {c_ScribeError c_EditError : Addr}{f : Addr} {fd : FuncData} (bn : Bn mg) (C : Cn K mg c_ScribeError c_EditError) (T : Fun K "_law_common" "_law_common" s__law_common f fd) :
    FnOk P w K mg base CX0 (0 + 1) f fd ["first", "second"] (spD K 2 f__law_common) := by
  refine fn_ok T sc__law_common fun cdv A outer s H E hr => ⟨_, d__law_common bn C hr, ?_⟩
  exact b__law_common
theorem ok_law {c_ScribeError c_EditError : Addr}{f : Addr} {fd : FuncData} (bn : Bn mg) (C : Cn K mg c_ScribeError c_EditError) (T : Fun K "law" "law" s_law f fd) (h__law_state : Has P w K mg base CX0 1 "_law_state" ["script"] f__law_state) (h__law_text : Has P w K mg base CX0 3 "_law_text" ["state", "longest"] f__law_text) (h__law_edit : Has P w K mg base CX0 4 "_law_edit" ["state", "text"] f__law_edit) (h__law_after : Has P w K mg base CX0 1 "_law_after" ["text", "edit"] f__law_after) (h__law_pick : Has P w K mg base CX0 2 "_law_pick" ["state", "row"] f__law_pick) (h_joined : Has P w K mg base (L2.CX P w) 3 "joined" ["text", "first", "second"] (f_joined c_EditError)) (h_difference : Has P w K mg base CX0 1 "difference" ["first", "second"] f_difference) (h__law_common : Has P w K mg base CX0 1 "_law_common" ["first", "second"] f__law_common) (h__law_refused : Has P w K mg base CX0 4 "_law_refused" ["text", "edit", "way"] f__law_refused) (h__law_unjoined : Has P w K mg base CX0 4 "_law_unjoined" ["text", "first", "second"] f__law_unjoined) (h_applied : Has P w K mg base (L2.CX P w) 2 "applied" ["text", "edit"] (f_applied c_EditError)) (h_inverse_of : Has P w K mg base (L2.CX P w) 2 "inverse_of" ["text", "edit"] (f_inverse_of c_EditError)) (h__law_draw : Has P w K mg base CX0 1 "_law_draw" ["state", "many"] f__law_draw) (h_moved : Has P w K mg base CX0 1 "moved" ["edit", "position", "right"] f_moved) :
    FnOk P w K mg base CX0 (4 + 1) f fd ["script"] (spD K 1 f_law) := by
  refine fn_ok T sc_law fun cdv A outer s H E hr => ⟨_, d_law bn C hr (h__law_state := h__law_state) (l__law_state := by decide) (h__law_text := h__law_text) (l__law_text := by decide) (h__law_edit := h__law_edit) (l__law_edit := by decide) (h__law_after := h__law_after) (l__law_after := by decide) (h__law_pick := h__law_pick) (l__law_pick := by decide) (h_joined := h_joined) (l_joined := by decide) (h_difference := h_difference) (l_difference := by decide) (h__law_common := h__law_common) (l__law_common := by decide) (h__law_refused := h__law_refused) (l__law_refused := by decide) (h__law_unjoined := h__law_unjoined) (l__law_unjoined := by decide) (h_applied := h_applied) (l_applied := by decide) (h_inverse_of := h_inverse_of) (l_inverse_of := by decide) (h__law_draw := h__law_draw) (l__law_draw := by decide) (h_moved := h_moved) (l_moved := by decide), ?_⟩
  exact b_law
end
theorem all_mk {P : Program} {w : World} {K : PySem.W.Frag} {h : Heap} {mg : Str → Option Value} {fa : Addr} (X : K.In h) (G : h.Ns mainGlobals mg) (hfa : mg "law" = some (.ref fa))
    {f0 : Addr} {oc0 kV0 dc0 pm0 cd0 ct0 : Value} {od0 an0 : Option Addr} {sl0 : Array (Option Value)}
    (a0 : PySem.W.nsIn K mainGlobals "check_edit" = some (some (.ref f0))) (l0 : K.lookup f0 = some ⟨oc0, od0, .func (PySem.W.fnOf "check_edit" "check_edit" (defArgs s_check_edit) (defBody s_check_edit) (defScope s_check_edit) .none kV0 dc0 pm0 an0 cd0 ct0), sl0⟩) (c0 : PySem.W.codeIn K cd0 "check_edit" = true) (k0 : PySem.W.keepIn K (.ref f0) = true)
    {f1 : Addr} {oc1 kV1 dc1 pm1 cd1 ct1 : Value} {od1 an1 : Option Addr} {sl1 : Array (Option Value)}
    (a1 : PySem.W.nsIn K mainGlobals "applied" = some (some (.ref f1))) (l1 : K.lookup f1 = some ⟨oc1, od1, .func (PySem.W.fnOf "applied" "applied" (defArgs s_applied) (defBody s_applied) (defScope s_applied) .none kV1 dc1 pm1 an1 cd1 ct1), sl1⟩) (c1 : PySem.W.codeIn K cd1 "applied" = true) (k1 : PySem.W.keepIn K (.ref f1) = true)
    {f2 : Addr} {oc2 kV2 dc2 pm2 cd2 ct2 : Value} {od2 an2 : Option Addr} {sl2 : Array (Option Value)}
    (a2 : PySem.W.nsIn K mainGlobals "inverse_of" = some (some (.ref f2))) (l2 : K.lookup f2 = some ⟨oc2, od2, .func (PySem.W.fnOf "inverse_of" "inverse_of" (defArgs s_inverse_of) (defBody s_inverse_of) (defScope s_inverse_of) .none kV2 dc2 pm2 an2 cd2 ct2), sl2⟩) (c2 : PySem.W.codeIn K cd2 "inverse_of" = true) (k2 : PySem.W.keepIn K (.ref f2) = true)
    {f3 : Addr} {oc3 kV3 dc3 pm3 cd3 ct3 : Value} {od3 an3 : Option Addr} {sl3 : Array (Option Value)}
    (a3 : PySem.W.nsIn K mainGlobals "moved" = some (some (.ref f3))) (l3 : K.lookup f3 = some ⟨oc3, od3, .func (PySem.W.fnOf "moved" "moved" (defArgs s_moved) (defBody s_moved) (defScope s_moved) .none kV3 dc3 pm3 an3 cd3 ct3), sl3⟩) (c3 : PySem.W.codeIn K cd3 "moved" = true) (k3 : PySem.W.keepIn K (.ref f3) = true)
    {f4 : Addr} {oc4 kV4 dc4 pm4 cd4 ct4 : Value} {od4 an4 : Option Addr} {sl4 : Array (Option Value)}
    (a4 : PySem.W.nsIn K mainGlobals "difference" = some (some (.ref f4))) (l4 : K.lookup f4 = some ⟨oc4, od4, .func (PySem.W.fnOf "difference" "difference" (defArgs s_difference) (defBody s_difference) (defScope s_difference) .none kV4 dc4 pm4 an4 cd4 ct4), sl4⟩) (c4 : PySem.W.codeIn K cd4 "difference" = true) (k4 : PySem.W.keepIn K (.ref f4) = true)
    {f5 : Addr} {oc5 kV5 dc5 pm5 cd5 ct5 : Value} {od5 an5 : Option Addr} {sl5 : Array (Option Value)}
    (a5 : PySem.W.nsIn K mainGlobals "joined" = some (some (.ref f5))) (l5 : K.lookup f5 = some ⟨oc5, od5, .func (PySem.W.fnOf "joined" "joined" (defArgs s_joined) (defBody s_joined) (defScope s_joined) .none kV5 dc5 pm5 an5 cd5 ct5), sl5⟩) (c5 : PySem.W.codeIn K cd5 "joined" = true) (k5 : PySem.W.keepIn K (.ref f5) = true)
    {f6 : Addr} {oc6 kV6 dc6 pm6 cd6 ct6 : Value} {od6 an6 : Option Addr} {sl6 : Array (Option Value)}
    (a6 : PySem.W.nsIn K mainGlobals "_law_state" = some (some (.ref f6))) (l6 : K.lookup f6 = some ⟨oc6, od6, .func (PySem.W.fnOf "_law_state" "_law_state" (defArgs s__law_state) (defBody s__law_state) (defScope s__law_state) .none kV6 dc6 pm6 an6 cd6 ct6), sl6⟩) (c6 : PySem.W.codeIn K cd6 "_law_state" = true) (k6 : PySem.W.keepIn K (.ref f6) = true)
    {f7 : Addr} {oc7 kV7 dc7 pm7 cd7 ct7 : Value} {od7 an7 : Option Addr} {sl7 : Array (Option Value)}
    (a7 : PySem.W.nsIn K mainGlobals "_law_draw" = some (some (.ref f7))) (l7 : K.lookup f7 = some ⟨oc7, od7, .func (PySem.W.fnOf "_law_draw" "_law_draw" (defArgs s__law_draw) (defBody s__law_draw) (defScope s__law_draw) .none kV7 dc7 pm7 an7 cd7 ct7), sl7⟩) (c7 : PySem.W.codeIn K cd7 "_law_draw" = true) (k7 : PySem.W.keepIn K (.ref f7) = true)
    {f8 : Addr} {oc8 kV8 dc8 pm8 cd8 ct8 : Value} {od8 an8 : Option Addr} {sl8 : Array (Option Value)}
    (a8 : PySem.W.nsIn K mainGlobals "_law_pick" = some (some (.ref f8))) (l8 : K.lookup f8 = some ⟨oc8, od8, .func (PySem.W.fnOf "_law_pick" "_law_pick" (defArgs s__law_pick) (defBody s__law_pick) (defScope s__law_pick) .none kV8 dc8 pm8 an8 cd8 ct8), sl8⟩) (c8 : PySem.W.codeIn K cd8 "_law_pick" = true) (k8 : PySem.W.keepIn K (.ref f8) = true)
    {f9 : Addr} {oc9 kV9 dc9 pm9 cd9 ct9 : Value} {od9 an9 : Option Addr} {sl9 : Array (Option Value)}
    (a9 : PySem.W.nsIn K mainGlobals "_law_text" = some (some (.ref f9))) (l9 : K.lookup f9 = some ⟨oc9, od9, .func (PySem.W.fnOf "_law_text" "_law_text" (defArgs s__law_text) (defBody s__law_text) (defScope s__law_text) .none kV9 dc9 pm9 an9 cd9 ct9), sl9⟩) (c9 : PySem.W.codeIn K cd9 "_law_text" = true) (k9 : PySem.W.keepIn K (.ref f9) = true)
    {f10 : Addr} {oc10 kV10 dc10 pm10 cd10 ct10 : Value} {od10 an10 : Option Addr} {sl10 : Array (Option Value)}
    (a10 : PySem.W.nsIn K mainGlobals "_law_edit" = some (some (.ref f10))) (l10 : K.lookup f10 = some ⟨oc10, od10, .func (PySem.W.fnOf "_law_edit" "_law_edit" (defArgs s__law_edit) (defBody s__law_edit) (defScope s__law_edit) .none kV10 dc10 pm10 an10 cd10 ct10), sl10⟩) (c10 : PySem.W.codeIn K cd10 "_law_edit" = true) (k10 : PySem.W.keepIn K (.ref f10) = true)
    {f11 : Addr} {oc11 kV11 dc11 pm11 cd11 ct11 : Value} {od11 an11 : Option Addr} {sl11 : Array (Option Value)}
    (a11 : PySem.W.nsIn K mainGlobals "_law_refused" = some (some (.ref f11))) (l11 : K.lookup f11 = some ⟨oc11, od11, .func (PySem.W.fnOf "_law_refused" "_law_refused" (defArgs s__law_refused) (defBody s__law_refused) (defScope s__law_refused) .none kV11 dc11 pm11 an11 cd11 ct11), sl11⟩) (c11 : PySem.W.codeIn K cd11 "_law_refused" = true) (k11 : PySem.W.keepIn K (.ref f11) = true)
    {f12 : Addr} {oc12 kV12 dc12 pm12 cd12 ct12 : Value} {od12 an12 : Option Addr} {sl12 : Array (Option Value)}
    (a12 : PySem.W.nsIn K mainGlobals "_law_unjoined" = some (some (.ref f12))) (l12 : K.lookup f12 = some ⟨oc12, od12, .func (PySem.W.fnOf "_law_unjoined" "_law_unjoined" (defArgs s__law_unjoined) (defBody s__law_unjoined) (defScope s__law_unjoined) .none kV12 dc12 pm12 an12 cd12 ct12), sl12⟩) (c12 : PySem.W.codeIn K cd12 "_law_unjoined" = true) (k12 : PySem.W.keepIn K (.ref f12) = true)
    {f13 : Addr} {oc13 kV13 dc13 pm13 cd13 ct13 : Value} {od13 an13 : Option Addr} {sl13 : Array (Option Value)}
    (a13 : PySem.W.nsIn K mainGlobals "_law_after" = some (some (.ref f13))) (l13 : K.lookup f13 = some ⟨oc13, od13, .func (PySem.W.fnOf "_law_after" "_law_after" (defArgs s__law_after) (defBody s__law_after) (defScope s__law_after) .none kV13 dc13 pm13 an13 cd13 ct13), sl13⟩) (c13 : PySem.W.codeIn K cd13 "_law_after" = true) (k13 : PySem.W.keepIn K (.ref f13) = true)
    {f14 : Addr} {oc14 kV14 dc14 pm14 cd14 ct14 : Value} {od14 an14 : Option Addr} {sl14 : Array (Option Value)}
    (a14 : PySem.W.nsIn K mainGlobals "_law_common" = some (some (.ref f14))) (l14 : K.lookup f14 = some ⟨oc14, od14, .func (PySem.W.fnOf "_law_common" "_law_common" (defArgs s__law_common) (defBody s__law_common) (defScope s__law_common) .none kV14 dc14 pm14 an14 cd14 ct14), sl14⟩) (c14 : PySem.W.codeIn K cd14 "_law_common" = true) (k14 : PySem.W.keepIn K (.ref f14) = true)
    {f15 : Addr} {oc15 kV15 dc15 pm15 cd15 ct15 : Value} {od15 an15 : Option Addr} {sl15 : Array (Option Value)}
    (a15 : PySem.W.nsIn K mainGlobals "law" = some (some (.ref f15))) (l15 : K.lookup f15 = some ⟨oc15, od15, .func (PySem.W.fnOf "law" "law" (defArgs s_law) (defBody s_law) (defScope s_law) .none kV15 dc15 pm15 an15 cd15 ct15), sl15⟩) (c15 : PySem.W.codeIn K cd15 "law" = true) (k15 : PySem.W.keepIn K (.ref f15) = true)
    {c_ScribeError : Addr} (xn_ScribeError : PySem.W.nsIn K mainGlobals "ScribeError" = some (some (.ref c_ScribeError))) (xq_ScribeError : PySem.W.excIn K c_ScribeError [.type "ValueError", .type "Exception", .type "BaseException", .type "object"] "ValueError.__new__" = true) (xk_ScribeError : PySem.W.keepIn K (.ref c_ScribeError) = true) (xb_ScribeError : PySem.W.subIn K (.ref c_ScribeError) (.type "BaseException") = some true) (xt_ScribeError : PySem.W.typeIn K (.ref c_ScribeError) = some (.type "type")) (xd_ScribeError : PySem.W.hasDictIn K c_ScribeError = true)
    (eg_ScribeError : PySem.W.findIn K (.ref c_ScribeError) "__getattribute__" = some (some (.builtin "BaseException.__getattribute__"))) (ek_ScribeError : PySem.W.findIn K (.ref c_ScribeError) "__getattr__" = some none) (ea_ScribeError : PySem.W.findIn K (.ref c_ScribeError) "__class__" = some (some (.builtin "object.__class__"))) (em_ScribeError : PySem.W.mroIn K c_ScribeError (.type "object") = some true)
    {c_EditError : Addr} (xn_EditError : PySem.W.nsIn K mainGlobals "EditError" = some (some (.ref c_EditError))) (xq_EditError : PySem.W.excIn K c_EditError [.type "ValueError", .type "Exception", .type "BaseException", .type "object"] "ValueError.__new__" = true) (xk_EditError : PySem.W.keepIn K (.ref c_EditError) = true) (xb_EditError : PySem.W.subIn K (.ref c_EditError) (.type "BaseException") = some true) (xt_EditError : PySem.W.typeIn K (.ref c_EditError) = some (.type "type")) (xd_EditError : PySem.W.hasDictIn K c_EditError = true)
    (eg_EditError : PySem.W.findIn K (.ref c_EditError) "__getattribute__" = some (some (.builtin "BaseException.__getattribute__"))) (ek_EditError : PySem.W.findIn K (.ref c_EditError) "__getattr__" = some none) (ea_EditError : PySem.W.findIn K (.ref c_EditError) "__class__" = some (some (.builtin "object.__class__"))) (em_EditError : PySem.W.mroIn K c_EditError (.type "object") = some true)
    (en : PySem.W.specialIn K (.builtin "object.__class__") "__get__" = some (some (.builtin "getset_descriptor.__get__"))) (et : PySem.W.takesIn K (.builtin "object.__class__") = some true)
    (s_ScribeError_EditError : PySem.W.subIn K (.ref c_ScribeError) (.ref c_EditError) = some false)
    (s_EditError_EditError : PySem.W.subIn K (.ref c_EditError) (.ref c_EditError) = some true)
    (s_ScribeError_ScribeError : PySem.W.subIn K (.ref c_ScribeError) (.ref c_ScribeError) = some true)
    (s_EditError_ScribeError : PySem.W.subIn K (.ref c_EditError) (.ref c_ScribeError) = some true)
    (b_abs : PySem.W.nsIn K mainGlobals "abs" = some none)
    (b_all : PySem.W.nsIn K mainGlobals "all" = some none)
    (b_any : PySem.W.nsIn K mainGlobals "any" = some none)
    (b_bool : PySem.W.nsIn K mainGlobals "bool" = some none)
    (b_dict : PySem.W.nsIn K mainGlobals "dict" = some none)
    (b_enumerate : PySem.W.nsIn K mainGlobals "enumerate" = some none)
    (b_int : PySem.W.nsIn K mainGlobals "int" = some none)
    (b_isinstance : PySem.W.nsIn K mainGlobals "isinstance" = some none)
    (b_len : PySem.W.nsIn K mainGlobals "len" = some none)
    (b_list : PySem.W.nsIn K mainGlobals "list" = some none)
    (b_max : PySem.W.nsIn K mainGlobals "max" = some none)
    (b_min : PySem.W.nsIn K mainGlobals "min" = some none)
    (b_range : PySem.W.nsIn K mainGlobals "range" = some none)
    (b_repr : PySem.W.nsIn K mainGlobals "repr" = some none)
    (b_reversed : PySem.W.nsIn K mainGlobals "reversed" = some none)
    (b_set : PySem.W.nsIn K mainGlobals "set" = some none)
    (b_sorted : PySem.W.nsIn K mainGlobals "sorted" = some none)
    (b_str : PySem.W.nsIn K mainGlobals "str" = some none)
    (b_sum : PySem.W.nsIn K mainGlobals "sum" = some none)
    (b_tuple : PySem.W.nsIn K mainGlobals "tuple" = some none)
    (b_zip : PySem.W.nsIn K mainGlobals "zip" = some none)
    (b_ValueError : PySem.W.nsIn K mainGlobals "ValueError" = some none)
    : ∃ fd : FuncData, (∀ (s : Shared) (v : Value), BindsTo s fd ⟨[v], []⟩ [("script", v)]) ∧ ∀ base : Heap, K.In base → base.Ns mainGlobals mg → FnOk P w K mg base CX0 5 fa fd ["script"] (spD K 1 f_law) := by
  have e := hfa.symm.trans (PySem.W.mg_of X G a15)
  cases e
  have bn : Bn mg := { b_abs := PySem.W.mg_none_of X G b_abs, b_all := PySem.W.mg_none_of X G b_all, b_any := PySem.W.mg_none_of X G b_any, b_bool := PySem.W.mg_none_of X G b_bool, b_dict := PySem.W.mg_none_of X G b_dict, b_enumerate := PySem.W.mg_none_of X G b_enumerate, b_int := PySem.W.mg_none_of X G b_int, b_isinstance := PySem.W.mg_none_of X G b_isinstance, b_len := PySem.W.mg_none_of X G b_len, b_list := PySem.W.mg_none_of X G b_list, b_max := PySem.W.mg_none_of X G b_max, b_min := PySem.W.mg_none_of X G b_min, b_range := PySem.W.mg_none_of X G b_range, b_repr := PySem.W.mg_none_of X G b_repr, b_reversed := PySem.W.mg_none_of X G b_reversed, b_set := PySem.W.mg_none_of X G b_set, b_sorted := PySem.W.mg_none_of X G b_sorted, b_str := PySem.W.mg_none_of X G b_str, b_sum := PySem.W.mg_none_of X G b_sum, b_tuple := PySem.W.mg_none_of X G b_tuple, b_zip := PySem.W.mg_none_of X G b_zip, b_ValueError := PySem.W.mg_none_of X G b_ValueError }
  have C : Cn K mg c_ScribeError c_EditError := { x_ScribeError := ⟨PySem.W.mg_of X G xn_ScribeError, xq_ScribeError, xk_ScribeError, xb_ScribeError, xt_ScribeError⟩, e_ScribeError := ⟨eg_ScribeError, ek_ScribeError, xb_ScribeError, xd_ScribeError, ea_ScribeError, en, et, em_ScribeError⟩, x_EditError := ⟨PySem.W.mg_of X G xn_EditError, xq_EditError, xk_EditError, xb_EditError, xt_EditError⟩, e_EditError := ⟨eg_EditError, ek_EditError, xb_EditError, xd_EditError, ea_EditError, en, et, em_EditError⟩, m_ScribeError_EditError := PySem.W.exm_ref xb_EditError xd_EditError xt_EditError s_ScribeError_EditError, m_EditError_EditError := PySem.W.exm_ref xb_EditError xd_EditError xt_EditError s_EditError_EditError, i_ScribeError_ScribeError := kit_ref s_ScribeError_ScribeError xd_ScribeError xt_ScribeError s_ScribeError_ScribeError, i_EditError_ScribeError := kit_ref s_EditError_EditError xd_ScribeError xt_ScribeError s_EditError_ScribeError }
  have T0 := fun_mk (st := s_check_edit) l0 c0 k0
  have T1 := fun_mk (st := s_applied) l1 c1 k1
  have T2 := fun_mk (st := s_inverse_of) l2 c2 k2
  have T3 := fun_mk (st := s_moved) l3 c3 k3
  have T4 := fun_mk (st := s_difference) l4 c4 k4
  have T5 := fun_mk (st := s_joined) l5 c5 k5
  have T6 := fun_mk (st := s__law_state) l6 c6 k6
  have T7 := fun_mk (st := s__law_draw) l7 c7 k7
  have T8 := fun_mk (st := s__law_pick) l8 c8 k8
  have T9 := fun_mk (st := s__law_text) l9 c9 k9
  have T10 := fun_mk (st := s__law_edit) l10 c10 k10
  have T11 := fun_mk (st := s__law_refused) l11 c11 k11
  have T12 := fun_mk (st := s__law_unjoined) l12 c12 k12
  have T13 := fun_mk (st := s__law_after) l13 c13 k13
  have T14 := fun_mk (st := s__law_common) l14 c14 k14
  have T15 := fun_mk (st := s_law) l15 c15 k15
  have B0 := T0.binds (ps := ["text", "edit"]) fun _ _ _ _ _ _ us hl => match us, hl with | [_, _], _ => rfl
  have B1 := T1.binds (ps := ["text", "edit"]) fun _ _ _ _ _ _ us hl => match us, hl with | [_, _], _ => rfl
  have B2 := T2.binds (ps := ["text", "edit"]) fun _ _ _ _ _ _ us hl => match us, hl with | [_, _], _ => rfl
  have B3 := T3.binds (ps := ["edit", "position", "right"]) fun _ _ _ _ _ _ us hl => match us, hl with | [_, _, _], _ => rfl
  have B4 := T4.binds (ps := ["first", "second"]) fun _ _ _ _ _ _ us hl => match us, hl with | [_, _], _ => rfl
  have B5 := T5.binds (ps := ["text", "first", "second"]) fun _ _ _ _ _ _ us hl => match us, hl with | [_, _, _], _ => rfl
  have B6 := T6.binds (ps := ["script"]) fun _ _ _ _ _ _ us hl => match us, hl with | [_], _ => rfl
  have B7 := T7.binds (ps := ["state", "many"]) fun _ _ _ _ _ _ us hl => match us, hl with | [_, _], _ => rfl
  have B8 := T8.binds (ps := ["state", "row"]) fun _ _ _ _ _ _ us hl => match us, hl with | [_, _], _ => rfl
  have B9 := T9.binds (ps := ["state", "longest"]) fun _ _ _ _ _ _ us hl => match us, hl with | [_, _], _ => rfl
  have B10 := T10.binds (ps := ["state", "text"]) fun _ _ _ _ _ _ us hl => match us, hl with | [_, _], _ => rfl
  have B11 := T11.binds (ps := ["text", "edit", "way"]) fun _ _ _ _ _ _ us hl => match us, hl with | [_, _, _], _ => rfl
  have B12 := T12.binds (ps := ["text", "first", "second"]) fun _ _ _ _ _ _ us hl => match us, hl with | [_, _, _], _ => rfl
  have B13 := T13.binds (ps := ["text", "edit"]) fun _ _ _ _ _ _ us hl => match us, hl with | [_, _], _ => rfl
  have B14 := T14.binds (ps := ["first", "second"]) fun _ _ _ _ _ _ us hl => match us, hl with | [_, _], _ => rfl
  have B15 := T15.binds (ps := ["script"]) fun _ _ _ _ _ _ us hl => match us, hl with | [_], _ => rfl
  refine ⟨PySem.W.fnOf "law" "law" (defArgs s_law) (defBody s_law) (defScope s_law) .none kV15 dc15 pm15 an15 cd15 ct15, fun s v => .of_eq rfl, fun base _ _ => ?_⟩
  have H__law_state : Has P w K mg base CX0 1 "_law_state" ["script"] f__law_state := Has.of (ok__law_state bn C T6) (PySem.W.mg_of X G a6) k6 B6
  have H__law_draw : Has P w K mg base CX0 1 "_law_draw" ["state", "many"] f__law_draw := Has.of (ok__law_draw bn C T7) (PySem.W.mg_of X G a7) k7 B7
  have H__law_pick : Has P w K mg base CX0 2 "_law_pick" ["state", "row"] f__law_pick := Has.of (ok__law_pick bn C T8 H__law_draw) (PySem.W.mg_of X G a8) k8 B8
  have H__law_text : Has P w K mg base CX0 3 "_law_text" ["state", "longest"] f__law_text := Has.of (ok__law_text bn C T9 H__law_pick H__law_draw) (PySem.W.mg_of X G a9) k9 B9
  have H__law_edit : Has P w K mg base CX0 4 "_law_edit" ["state", "text"] f__law_edit := Has.of (ok__law_edit bn C T10 H__law_draw H__law_text) (PySem.W.mg_of X G a10) k10 B10
  have H__law_after : Has P w K mg base CX0 1 "_law_after" ["text", "edit"] f__law_after := Has.of (ok__law_after bn C T13) (PySem.W.mg_of X G a13) k13 B13
  have H_check_edit : Has P w K mg base (L2.CX P w) 1 "check_edit" ["text", "edit"] (f_check_edit c_EditError) := Has.of (ok_check_edit bn C T0) (PySem.W.mg_of X G a0) k0 B0
  have H_applied : Has P w K mg base (L2.CX P w) 2 "applied" ["text", "edit"] (f_applied c_EditError) := Has.of (ok_applied bn C T1 H_check_edit) (PySem.W.mg_of X G a1) k1 B1
  have H_joined : Has P w K mg base (L2.CX P w) 3 "joined" ["text", "first", "second"] (f_joined c_EditError) := Has.of (ok_joined bn C T5 H_applied H_check_edit) (PySem.W.mg_of X G a5) k5 B5
  have H_difference : Has P w K mg base CX0 1 "difference" ["first", "second"] f_difference := Has.of (ok_difference bn C T4) (PySem.W.mg_of X G a4) k4 B4
  have H__law_common : Has P w K mg base CX0 1 "_law_common" ["first", "second"] f__law_common := Has.of (ok__law_common bn C T14) (PySem.W.mg_of X G a14) k14 B14
  have H_inverse_of : Has P w K mg base (L2.CX P w) 2 "inverse_of" ["text", "edit"] (f_inverse_of c_EditError) := Has.of (ok_inverse_of bn C T2 H_check_edit) (PySem.W.mg_of X G a2) k2 B2
  have H__law_refused : Has P w K mg base CX0 4 "_law_refused" ["text", "edit", "way"] f__law_refused := Has.of (ok__law_refused bn C T11 H_applied H_inverse_of H_joined) (PySem.W.mg_of X G a11) k11 B11
  have H__law_unjoined : Has P w K mg base CX0 4 "_law_unjoined" ["text", "first", "second"] f__law_unjoined := Has.of (ok__law_unjoined bn C T12 H_joined) (PySem.W.mg_of X G a12) k12 B12
  have H_moved : Has P w K mg base CX0 1 "moved" ["edit", "position", "right"] f_moved := Has.of (ok_moved bn C T3) (PySem.W.mg_of X G a3) k3 B3
  exact ok_law bn C T15 H__law_state H__law_text H__law_edit H__law_after H__law_pick H_joined H_difference H__law_common H__law_refused H__law_unjoined H_applied H_inverse_of H__law_draw H_moved
theorem walk {l : PySem.W.OpenLaw} {q : Program} {loose : List Str} {XP : (Str → Option Value) → Heap → Prop} {YP : World → Heap → Prop} {d : DefRec} {K : Params → PySem.W.Frag} (hn : l.most = some 63) (hdf : d.params.defaults = [])
    (hY : ∀ (w : World) (h : Heap), YP w h → (K w.params).In h)
    (F : ∀ (w : World) (mg : Str → Option Value) (fa : Addr) (h : Heap), (K w.params).In h → h.Ns mainGlobals mg → mg d.name = some (.ref fa) →
      ∃ fd : FuncData, (∀ (s : Shared) (u : Value), BindsTo s fd ⟨[u], []⟩ [("script", u)]) ∧ ∀ base : Heap, (K w.params).In base → base.Ns mainGlobals mg → FnOk l.prog w (K w.params) mg base CX0 5 fa fd ["script"] (spD (K w.params) 1 f_law)) :
    PySem.W.WalkO q loose XP YP l.row.toRowW d [] (fun f vs => PySem.call f vs) :=
  L2.walk_ofB (n := 63) (k := 5) (x := "script") (CX := fun _ => CX0) (sp := fun w => spD (K w.params) 1 f_law) hn (by decide) hdf ⟨rfl, by decide, by decide⟩ hY F (fun _ _ a ns hl hb _ hS => law_sp hS fun Φ Ψ k => law_pre hl hb k) fun _ _ _ _ _ z => z
end T
open PySem PySem.W PyProof.Rows
set_option maxRecDepth 100000 in
set_option maxHeartbeats 0 in
theorem PySem.Challenge.cw_selfloom_k07_edits_holds : PySem.Challenge.rw_selfloom_k07_edits.Holds := by
  w_on; o_law; k_head; (case hw => w_witness2)
  k_fill
  refine T.walk (l := PySem.Challenge.rw_selfloom_k07_edits) rfl rfl (fun w h Y => PySem.W.kIn_of Y) ?F
  case F =>
    intro w mg fa h KX G hmg
    refine' T.all_mk KX G hmg ?a0 ?l0 ?c0 ?k0 ?a1 ?l1 ?c1 ?k1 ?a2 ?l2 ?c2 ?k2 ?a3 ?l3 ?c3 ?k3 ?a4 ?l4 ?c4 ?k4 ?a5 ?l5 ?c5 ?k5 ?a6 ?l6 ?c6 ?k6 ?a7 ?l7 ?c7 ?k7 ?a8 ?l8 ?c8 ?k8 ?a9 ?l9 ?c9 ?k9 ?a10 ?l10 ?c10 ?k10 ?a11 ?l11 ?c11 ?k11 ?a12 ?l12 ?c12 ?k12 ?a13 ?l13 ?c13 ?k13 ?a14 ?l14 ?c14 ?k14 ?a15 ?l15 ?c15 ?k15 ?xn_ScribeError ?xq_ScribeError ?xk_ScribeError ?xb_ScribeError ?xt_ScribeError ?xd_ScribeError ?eg_ScribeError ?ek_ScribeError ?ea_ScribeError ?em_ScribeError ?xn_EditError ?xq_EditError ?xk_EditError ?xb_EditError ?xt_EditError ?xd_EditError ?eg_EditError ?ek_EditError ?ea_EditError ?em_EditError ?en ?et ?s_ScribeError_EditError ?s_EditError_EditError ?s_ScribeError_ScribeError ?s_EditError_ScribeError ?b_abs ?b_all ?b_any ?b_bool ?b_dict ?b_enumerate ?b_int ?b_isinstance ?b_len ?b_list ?b_max ?b_min ?b_range ?b_repr ?b_reversed ?b_set ?b_sorted ?b_str ?b_sum ?b_tuple ?b_zip ?b_ValueError
    (case a0 => k_is)
    (case l0 => k_is)
    (case c0 => k_is)
    (case k0 => k_is)
    (case a1 => k_is)
    (case l1 => k_is)
    (case c1 => k_is)
    (case k1 => k_is)
    (case a2 => k_is)
    (case l2 => k_is)
    (case c2 => k_is)
    (case k2 => k_is)
    (case a3 => k_is)
    (case l3 => k_is)
    (case c3 => k_is)
    (case k3 => k_is)
    (case a4 => k_is)
    (case l4 => k_is)
    (case c4 => k_is)
    (case k4 => k_is)
    (case a5 => k_is)
    (case l5 => k_is)
    (case c5 => k_is)
    (case k5 => k_is)
    (case a6 => k_is)
    (case l6 => k_is)
    (case c6 => k_is)
    (case k6 => k_is)
    (case a7 => k_is)
    (case l7 => k_is)
    (case c7 => k_is)
    (case k7 => k_is)
    (case a8 => k_is)
    (case l8 => k_is)
    (case c8 => k_is)
    (case k8 => k_is)
    (case a9 => k_is)
    (case l9 => k_is)
    (case c9 => k_is)
    (case k9 => k_is)
    (case a10 => k_is)
    (case l10 => k_is)
    (case c10 => k_is)
    (case k10 => k_is)
    (case a11 => k_is)
    (case l11 => k_is)
    (case c11 => k_is)
    (case k11 => k_is)
    (case a12 => k_is)
    (case l12 => k_is)
    (case c12 => k_is)
    (case k12 => k_is)
    (case a13 => k_is)
    (case l13 => k_is)
    (case c13 => k_is)
    (case k13 => k_is)
    (case a14 => k_is)
    (case l14 => k_is)
    (case c14 => k_is)
    (case k14 => k_is)
    (case a15 => k_is)
    (case l15 => k_is)
    (case c15 => k_is)
    (case k15 => k_is)
    (case xn_ScribeError => k_is)
    (case xq_ScribeError => k_exc)
    (case xk_ScribeError => k_is)
    (case xb_ScribeError => k_is)
    (case xt_ScribeError => k_is)
    (case xd_ScribeError => k_is)
    (case eg_ScribeError => k_is)
    (case ek_ScribeError => k_is)
    (case ea_ScribeError => k_is)
    (case em_ScribeError => k_is)
    (case xn_EditError => k_is)
    (case xq_EditError => k_exc)
    (case xk_EditError => k_is)
    (case xb_EditError => k_is)
    (case xt_EditError => k_is)
    (case xd_EditError => k_is)
    (case eg_EditError => k_is)
    (case ek_EditError => k_is)
    (case ea_EditError => k_is)
    (case em_EditError => k_is)
    (case en => k_is)
    (case et => k_is)
    (case s_ScribeError_EditError => first | rfl | k_is)
    (case s_EditError_EditError => first | rfl | k_is)
    (case s_ScribeError_ScribeError => first | rfl | k_is)
    (case s_EditError_ScribeError => first | rfl | k_is)
    (case b_abs => k_is)
    (case b_all => k_is)
    (case b_any => k_is)
    (case b_bool => k_is)
    (case b_dict => k_is)
    (case b_enumerate => k_is)
    (case b_int => k_is)
    (case b_isinstance => k_is)
    (case b_len => k_is)
    (case b_list => k_is)
    (case b_max => k_is)
    (case b_min => k_is)
    (case b_range => k_is)
    (case b_repr => k_is)
    (case b_reversed => k_is)
    (case b_set => k_is)
    (case b_sorted => k_is)
    (case b_str => k_is)
    (case b_sum => k_is)
    (case b_tuple => k_is)
    (case b_zip => k_is)
    (case b_ValueError => k_is)

