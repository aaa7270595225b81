import PyProof.Rows.All
import HandS.ForMost
import HandS.Wide
import HandS.Exc
import HandS.ExcOwn
import HandS.CallSlots
import HandS.Defaults
import HandS.HeadEnd
import HandS.HeadHook1
import HandS.HeadHook2
import HandS.WordsExc
import HandS.TupAny
import HandS.Style
import HandS.Deep
import PyProof.StrBlock2
import HandS.Head0
import HandS.Head1
import HandS.Head2
import PySem.Challenge.RW_beatsnested_k08_begins_counted_far
set_option Elab.async false
set_option linter.all false
set_option maxRecDepth 100000
set_option maxHeartbeats 4000000
/-! PL1: data trees, frozen heap, the relation of slots and data, readings. -/
namespace PL
open PySem PySem.Spec PyProof.Rows L2

/-- data -/
inductive D where
  | non | bl (b : Bool) | int (i : Int) | str (x : Str) | lst (ds : List D) | tup (ds : List D) | src | scr (ns : List Int)

abbrev sOk (x : Str) : Bool := PySem.PyData.strOk x
/-- the ghost: what is frozen; where the law's source lies -/
structure Gh where
  F : Hp
  sa : Option (Addr × Addr)
structure Gh.Le (G G' : Gh) : Prop where
  f : ∀ a o, G.F a = some o → G'.F a = some o
  s : ∀ p, G.sa = some p → G'.sa = some p
theorem Gh.Le.refl (G : Gh) : G.Le G := ⟨fun _ _ h => h, fun _ h => h⟩
theorem Gh.Le.trans {A B C : Gh} (a : A.Le B) (b : B.Le C) : A.Le C := ⟨fun x o h => b.f x o (a.f x o h), fun p h => b.s p (a.s p h)⟩
theorem rd_mono {H H' : Hp} {a : Addr} {u : HO} (e : ∀ a o, H a = some o → H' a = some o) (h : Rd H a u) : Rd H' a u := by
  rcases h with h | ⟨o, h⟩
  · exact .inl (e _ _ h)
  · exact .inr ⟨o, e _ _ h⟩
theorem sqL_mono {K : PySem.W.Frag} {H H' : Hp} {a : Addr} {xs : List V} (e : ∀ a o, H a = some o → H' a = some o) (h : SqL K H a xs) : SqL K H' a xs := by
  rcases h with h | h
  · exact .inl (rd_mono e h)
  · exact .inr h
theorem sqT_mono {K : PySem.W.Frag} {H H' : Hp} {a : Addr} {xs : List V} (e : ∀ a o, H a = some o → H' a = some o) (h : SqT K H a xs) : SqT K H' a xs := by
  rcases h with h | h
  · exact .inl (rd_mono e h)
  · exact .inr h

mutual
/-- a value stands for a datum, by what is frozen -/
inductive Rp (K : PySem.W.Frag) (G : Gh) : V → D → Prop
  | non : Rp K G .non .non
  | bl (b : Bool) : Rp K G (.bl b) (.bl b)
  | int (i : Int) : Rp K G (.int i) (.int i)
  | str (x : Str) : sOk x = true → Rp K G (.str x) (.str x)
  | lst {a : Addr} {xs : List V} {ds : List D} : G.F a = some (.lst xs) → RpA K G xs ds → Rp K G (.ref a) (.lst ds)
  | tup {a : Addr} {xs : List V} {ds : List D} : SqT K G.F a xs → RpA K G xs ds → Rp K G (.ref a) (.tup ds)
  | src {a c : Addr} : G.sa = some (a, c) → Rp K G (.ref a) .src
  | scr {a : Addr} {ns : List Int} : SqL K G.F a (ns.map V.int) → Rp K G (.ref a) (.scr ns)
inductive RpA (K : PySem.W.Frag) (G : Gh) : List V → List D → Prop
  | nil : RpA K G [] []
  | cons {v : V} {vs : List V} {d : D} {ds : List D} : Rp K G v d → RpA K G vs ds → RpA K G (v :: vs) (d :: ds)
end
section
variable {K : PySem.W.Frag} {G G' : Gh}
mutual
theorem Rp.mono (l : G.Le G') : ∀ {v : V} {d : D}, Rp K G v d → Rp K G' v d
  | _, _, .non => .non
  | _, _, .bl b => .bl b
  | _, _, .int i => .int i
  | _, _, .str x h => .str x h
  | _, _, .lst s r => .lst (l.f _ _ s) (RpA.mono l r)
  | _, _, .tup s r => .tup (sqT_mono l.f s) (RpA.mono l r)
  | _, _, .src s => .src (l.s _ s)
  | _, _, .scr s => .scr (sqL_mono l.f s)
theorem RpA.mono (l : G.Le G') : ∀ {vs : List V} {ds : List D}, RpA K G vs ds → RpA K G' vs ds
  | _, _, .nil => .nil
  | _, _, .cons r t => .cons (Rp.mono l r) (RpA.mono l t)
end
theorem RpA.length : ∀ {vs : List V} {ds : List D}, RpA K G vs ds → vs.length = ds.length
  | _, _, .nil => rfl
  | _, _, .cons _ t => congrArg Nat.succ (RpA.length t)
theorem RpA.get : ∀ {vs : List V} {ds : List D} {i : Nat} {d : D}, RpA K G vs ds → ds[i]? = some d → ∃ v, vs[i]? = some v ∧ Rp K G v d
  | _, _, _, _, .nil, e => by simp at e
  | _, _, 0, _, .cons r _, e => by simp at e; subst e; exact ⟨_, rfl, r⟩
  | _, _, i + 1, d, .cons _ t, e => by
    obtain ⟨v, h1, h2⟩ := RpA.get (i := i) (d := d) t (by simpa using e)
    exact ⟨v, by simpa using h1, h2⟩
theorem RpA.getV : ∀ {vs : List V} {ds : List D} {i : Nat} {v : V}, RpA K G vs ds → vs[i]? = some v → ∃ d, ds[i]? = some d ∧ Rp K G v d
  | _, _, _, _, .nil, e => by simp at e
  | _, _, 0, _, .cons r _, e => by simp at e; subst e; exact ⟨_, rfl, r⟩
  | _, _, i + 1, d, .cons _ t, e => by
    obtain ⟨v, h1, h2⟩ := RpA.getV (i := i) (v := d) t (by simpa using e)
    exact ⟨v, by simpa using h1, h2⟩
theorem RpA.append : ∀ {vs ws : List V} {ds es : List D}, RpA K G vs ds → RpA K G ws es → RpA K G (vs ++ ws) (ds ++ es)
  | _, _, _, _, .nil, s => s
  | _, _, _, _, .cons r t, s => .cons r (RpA.append t s)
theorem RpA.take : ∀ {vs : List V} {ds : List D} (n : Nat), RpA K G vs ds → RpA K G (vs.take n) (ds.take n)
  | _, _, 0, _ => .nil
  | _, _, _ + 1, .nil => .nil
  | _, _, n + 1, .cons r t => .cons r (RpA.take n t)
theorem RpA.drop : ∀ {vs : List V} {ds : List D} (n : Nat), RpA K G vs ds → RpA K G (vs.drop n) (ds.drop n)
  | _, _, 0, r => r
  | _, _, _ + 1, .nil => .nil
  | _, _, n + 1, .cons _ t => RpA.drop n t
theorem RpA.set {v : V} {d : D} (r : Rp K G v d) : ∀ {vs : List V} {ds : List D} (i : Nat), RpA K G vs ds → RpA K G (vs.set i v) (ds.set i d)
  | _, _, _, .nil => .nil
  | _, _, 0, .cons _ t => .cons r t
  | _, _, i + 1, .cons q t => .cons q (RpA.set r i t)
theorem RpA.eraseIdx : ∀ {vs : List V} {ds : List D} (i : Nat), RpA K G vs ds → RpA K G (vs.eraseIdx i) (ds.eraseIdx i)
  | _, _, _, .nil => .nil
  | _, _, 0, .cons _ t => t
  | _, _, i + 1, .cons q t => .cons q (RpA.eraseIdx i t)
theorem RpA.dropLast {vs : List V} {ds : List D} (r : RpA K G vs ds) : RpA K G vs.dropLast ds.dropLast := by
  rw [List.dropLast_eq_take, List.dropLast_eq_take, r.length]
  exact r.take _
theorem RpA.one {v : V} {d : D} (r : Rp K G v d) : RpA K G [v] [d] := .cons r .nil
theorem RpA.reverse : ∀ {vs : List V} {ds : List D}, RpA K G vs ds → RpA K G vs.reverse ds.reverse
  | _, _, .nil => .nil
  | _, _, .cons r t => by
    rw [List.reverse_cons, List.reverse_cons]
    exact (RpA.reverse t).append (.one r)
end

/-- the law's source -/
structure Src where
  cells : List Int
  left : Int
  mixed : Int
  turn : Int
def srcKvs (s : Src) (c : Addr) : List (Key × V) := [(.inr "cells", .ref c), (.inr "left", .int s.left), (.inr "mixed", .int s.mixed), (.inr "turn", .int s.turn)]
def SrcR (G : Gh) (H Z : Hp) : Option Src → Prop
  | none => G.sa = none
  | some s => ∃ a c, G.sa = some (a, c) ∧ H a = some (.dK (srcKvs s c)) ∧ H c = some (.lst (s.cells.map V.int)) ∧ G.F a = none ∧ G.F c = none ∧ Z a = none ∧ Z c = none

/-- what a slot holds: a frozen datum, or a list of its own -/
inductive Sl where
  | val (d : D)
  | ml (ds : List D)
def Sl.isMut : Sl → Bool
  | .val _ => false
  | .ml _ => true
/-- a state: slots, the source -/
structure PS where
  env : List (Option Sl)
  src : Option Src
def SlR (K : PySem.W.Frag) (G : Gh) (H : Hp) (x : Option V) : Sl → Prop
  | .val d => ∃ v, x = some v ∧ Rp K G v d
  | .ml ds => ∃ a vs, x = some (.ref a) ∧ H a = some (.lst vs) ∧ G.F a = none ∧ RpA K G vs ds
def Own (σ : L2.St) (ρ : PS) (i : Nat) (a : Addr) : Prop := (∃ sl, ρ.env[i]? = some (some sl) ∧ sl.isMut = true) ∧ σ[i]? = some (some (.ref a))

structure Rel (K : PySem.W.Frag) (Z : Hp) (G : Gh) (σ : L2.St) (H : Hp) (ρ : PS) : Prop where
  len : σ.length = ρ.env.length
  fz : ∀ a o, G.F a = some o → H a = some o
  zz : ∀ a o, Z a = some o → H a = some o ∧ G.F a = none
  sr : SrcR G H Z ρ.src
  en : ∀ (i : Nat) (sl : Sl), ρ.env[i]? = some (some sl) → ∃ x : Option V, σ[i]? = some x ∧ SlR K G H x sl
  sep : ∀ (i j : Nat) (a : Addr), Own σ ρ i a → Own σ ρ j a → i = j
  oz : ∀ (i : Nat) (a : Addr), Own σ ρ i a → Z a = none
  os : ∀ (i : Nat) (a p c : Addr), Own σ ρ i a → G.sa = some (p, c) → a ≠ p ∧ a ≠ c

section
variable {K : PySem.W.Frag} {Z : Hp} {G G' : Gh} {σ : L2.St} {H H' : Hp} {ρ : PS}
def Gh.add (G : Gh) (p : Addr) (o : HO) : Gh := ⟨upd G.F p o, G.sa⟩
theorem Rel.own (r : Rel K Z G σ H ρ) {i : Nat} {a : Addr} (o : Own σ ρ i a) : ∃ ds vs, ρ.env[i]? = some (some (.ml ds)) ∧ H a = some (.lst vs) ∧ G.F a = none ∧ RpA K G vs ds := by
  obtain ⟨⟨sl, e, m⟩, s⟩ := o
  cases sl with
  | val d => cases m
  | ml ds =>
    obtain ⟨x, ex, b, vs, e1, h, f, q⟩ := r.en i _ e
    rw [s] at ex
    cases ex
    cases e1
    exact ⟨ds, vs, e, h, f, q⟩
theorem Rel.fnone (r : Rel K Z G σ H ρ) {p : Addr} (h : H p = none) : G.F p = none := by
  cases e : G.F p with
  | none => rfl
  | some o => rw [r.fz p o e] at h; cases h
theorem Gh.le_add {p : Addr} {o : HO} (h : G.F p = none) : G.Le (G.add p o) := ⟨fun a u e => by
  show upd G.F p o a = some u
  rw [upd_ne (ne_of_none e h)]
  exact e, fun _ h => h⟩
theorem Gh.add_at {p : Addr} {o : HO} : (G.add p o).F p = some o := upd_same
theorem SlR.mono {x : Option V} {sl : Sl} (l : G.Le G') (h : SlR K G H x sl) (hm : ∀ a vs, x = some (.ref a) → H a = some (.lst vs) → G.F a = none → H' a = some (.lst vs) ∧ G'.F a = none) : SlR K G' H' x sl := by
  cases sl with
  | val d =>
    obtain ⟨v, e, r⟩ := h
    exact ⟨v, e, r.mono l⟩
  | ml ds =>
    obtain ⟨a, vs, e, h1, h2, r⟩ := h
    obtain ⟨h3, h4⟩ := hm a vs e h1 h2
    exact ⟨a, vs, e, h3, h4, r.mono l⟩
/-- a new frozen object -/
theorem Rel.alloc (r : Rel K Z G σ H ρ) {p : Addr} (hp : H p = none) (o : HO) : Rel K Z (G.add p o) σ (upd H p o) ρ := by
  have fp := r.fnone hp
  have ne : ∀ {a u}, H a = some u → a ≠ p := fun h => ne_of_none h hp
  refine ⟨r.len, fun a u e => ?_, fun a u e => ?_, ?_, fun i sl e => ?_, r.sep, r.oz, r.os⟩
  · by_cases h : a = p
    · subst h
      have e' : upd G.F a o a = some u := e
      rw [upd_same] at e' ⊢
      exact e'
    · have e' : upd G.F p o a = some u := e
      rw [upd_ne h] at e' ⊢
      exact r.fz a u e'
  · obtain ⟨h1, h2⟩ := r.zz a u e
    refine ⟨by rw [upd_ne (ne h1)]; exact h1, ?_⟩
    show upd G.F p o a = none
    rw [upd_ne (ne h1)]
    exact h2
  · have sr := r.sr
    cases q : ρ.src with
    | none => rw [q] at sr; exact sr
    | some s =>
      rw [q] at sr
      obtain ⟨a, c, e, h1, h2, f1, f2, z1, z2⟩ := sr
      refine ⟨a, c, e, by rw [upd_ne (ne h1)]; exact h1, by rw [upd_ne (ne h2)]; exact h2, ?_, ?_, z1, z2⟩
      · show upd G.F p o a = none
        rw [upd_ne (ne h1)]; exact f1
      · show upd G.F p o c = none
        rw [upd_ne (ne h2)]; exact f2
  · obtain ⟨x, ex, q⟩ := r.en i sl e
    refine ⟨x, ex, q.mono (Gh.le_add fp) fun a vs _ h1 h2 => ⟨by rw [upd_ne (ne h1)]; exact h1, ?_⟩⟩
    show upd G.F p o a = none
    rw [upd_ne (ne h1)]
    exact h2

def PS.set (ρ : PS) (i : Nat) (s : Sl) : PS := ⟨ρ.env.set i (some s), ρ.src⟩
theorem own_set_val {i j : Nat} {v : V} {d : D} {a : Addr} (h : Own (σ.set i (some v)) (ρ.set i (.val d)) j a) : j ≠ i ∧ Own σ ρ j a := by
  obtain ⟨⟨sl, e, m⟩, s⟩ := h
  have hj : j ≠ i := by
    rintro rfl
    have e' : (ρ.env.set j (some (.val d)))[j]? = some (some sl) := e
    rw [List.getElem?_set] at e'
    rw [if_pos rfl] at e'
    split at e'
    · cases e'; cases m
    · cases e'
  refine ⟨hj, ⟨sl, ?_, m⟩, ?_⟩
  · have e' : (ρ.env.set i (some (.val d)))[j]? = some (some sl) := e
    rw [List.getElem?_set_ne (Ne.symm hj)] at e'
    exact e'
  · rw [List.getElem?_set_ne (Ne.symm hj)] at s
    exact s
/-- a slot gets a datum -/
theorem Rel.setVal (r : Rel K Z G σ H ρ) {i : Nat} {v : V} {d : D} (q : Rp K G v d) : Rel K Z G (σ.set i (some v)) H (ρ.set i (.val d)) := by
  refine ⟨by show (σ.set i (some v)).length = (ρ.env.set i (some (Sl.val d))).length; rw [List.length_set, List.length_set]; exact r.len, r.fz, r.zz, r.sr, fun j sl e => ?_, fun j k a h1 h2 => r.sep j k a (own_set_val h1).2 (own_set_val h2).2, fun j a h => r.oz j a (own_set_val h).2, fun j a p c h => r.os j a p c (own_set_val h).2⟩
  have e' : (ρ.env.set i (some (.val d)))[j]? = some (some sl) := e
  by_cases hj : j = i
  · subst hj
    rw [List.getElem?_set, if_pos rfl] at e'
    split at e'
    · cases e'
      rename_i hl
      refine ⟨some v, ?_, v, rfl, q⟩
      rw [List.getElem?_set, if_pos rfl, if_pos (by rw [r.len]; exact hl)]
    · cases e'
  · rw [List.getElem?_set_ne (Ne.symm hj)] at e'
    obtain ⟨x, ex, z⟩ := r.en j sl e'
    exact ⟨x, by rw [List.getElem?_set_ne (Ne.symm hj)]; exact ex, z⟩
/-- a slot gets a new list of its own -/
theorem Rel.setNew (r : Rel K Z G σ H ρ) {i : Nat} {p : Addr} {vs : List V} {ds : List D} (hp : H p = none) (q : RpA K G vs ds) : Rel K Z G (σ.set i (some (.ref p))) (upd H p (.lst vs)) (ρ.set i (.ml ds)) := by
  have fp := r.fnone hp
  have ne : ∀ {a u}, H a = some u → a ≠ p := fun h => ne_of_none h hp
  have zp : Z p = none := by
    cases e : Z p with
    | none => rfl
    | some o => rw [(r.zz p o e).1] at hp; cases hp
  have ow : ∀ {j a}, Own (σ.set i (some (.ref p))) (ρ.set i (.ml ds)) j a → (j = i ∧ a = p) ∨ (j ≠ i ∧ Own σ ρ j a ∧ a ≠ p) := fun {j a} ⟨⟨sl, e, m⟩, s⟩ => by
    by_cases hj : j = i
    · subst hj
      rw [List.getElem?_set, if_pos rfl] at s
      split at s
      · cases s; exact .inl ⟨rfl, rfl⟩
      · cases s
    · have e' : (ρ.env.set i (some (.ml ds)))[j]? = some (some sl) := e
      rw [List.getElem?_set_ne (Ne.symm hj)] at e' s
      have o : Own σ ρ j a := ⟨⟨sl, e', m⟩, s⟩
      obtain ⟨_, _, _, h, _⟩ := r.own o
      exact .inr ⟨hj, o, ne h⟩
  refine ⟨by show (σ.set i _).length = (ρ.env.set i _).length; rw [List.length_set, List.length_set]; exact r.len, fun a u e => by rw [upd_ne (ne (r.fz a u e))]; exact r.fz a u e, fun a u e => ?_, ?_, fun j sl e => ?_, fun j k a h1 h2 => ?_, fun j a h => ?_, fun j a p' c h e => ?_⟩
  · obtain ⟨h1, h2⟩ := r.zz a u e
    exact ⟨by rw [upd_ne (ne h1)]; exact h1, h2⟩
  · have sr := r.sr
    show SrcR G (upd H p (.lst vs)) Z ρ.src
    cases q : ρ.src with
    | none => rw [q] at sr; exact sr
    | some s =>
      rw [q] at sr
      obtain ⟨a, c, e, h1, h2, z⟩ := sr
      exact ⟨a, c, e, by rw [upd_ne (ne h1)]; exact h1, by rw [upd_ne (ne h2)]; exact h2, z⟩
  · have e' : (ρ.env.set i (some (.ml ds)))[j]? = some (some sl) := e
    by_cases hj : j = i
    · subst hj
      rw [List.getElem?_set, if_pos rfl] at e'
      split at e'
      · cases e'
        rename_i hl
        exact ⟨some (.ref p), by rw [List.getElem?_set, if_pos rfl, if_pos (by rw [r.len]; exact hl)], p, vs, rfl, upd_same, fp, q⟩
      · cases e'
    · rw [List.getElem?_set_ne (Ne.symm hj)] at e'
      obtain ⟨x, ex, z⟩ := r.en j sl e'
      exact ⟨x, by rw [List.getElem?_set_ne (Ne.symm hj)]; exact ex, z.mono (.refl _) fun a vs _ h1 h2 => ⟨by rw [upd_ne (ne h1)]; exact h1, h2⟩⟩
  · rcases ow h1 with ⟨rfl, rfl⟩ | ⟨n1, o1, a1⟩
    · rcases ow h2 with ⟨rfl, _⟩ | ⟨n2, o2, a2⟩
      · rfl
      · exact absurd rfl a2
    · rcases ow h2 with ⟨rfl, rfl⟩ | ⟨n2, o2, a2⟩
      · exact absurd rfl a1
      · exact r.sep j k a o1 o2
  · rcases ow h with ⟨rfl, rfl⟩ | ⟨n1, o1, a1⟩
    · exact zp
    · exact r.oz j a o1
  · rcases ow h with ⟨rfl, rfl⟩ | ⟨n1, o1, a1⟩
    · have sr := r.sr
      cases q : ρ.src with
      | none =>
        rw [q] at sr
        have e0 : G.sa = none := sr
        have e1 : G.sa = some (p', c) := e
        rw [e0] at e1; cases e1
      | some s =>
        rw [q] at sr
        obtain ⟨a', c', e', h1, h2, _⟩ := sr
        have e1 : G.sa = some (p', c) := e
        rw [e'] at e1
        cases e1
        exact ⟨(ne h1).symm, (ne h2).symm⟩
    · exact r.os j a p' c o1 e
/-- a slot's own list is changed -/
theorem Rel.write (r : Rel K Z G σ H ρ) {i : Nat} {a : Addr} {ds0 : List D} {vs : List V} {ds : List D} (e0 : ρ.env[i]? = some (some (.ml ds0))) (s0 : σ[i]? = some (some (.ref a))) (q : RpA K G vs ds) : Rel K Z G σ (upd H a (.lst vs)) (ρ.set i (.ml ds)) := by
  have o0 : Own σ ρ i a := ⟨⟨_, e0, rfl⟩, s0⟩
  obtain ⟨_, vs0, _, h0, f0, _⟩ := r.own o0
  have hi : i < ρ.env.length := (List.getElem?_eq_some_iff.mp e0).1
  have ow : ∀ {j b}, Own σ (ρ.set i (.ml ds)) j b → Own σ ρ j b := fun {j b} ⟨⟨sl, e, m⟩, s⟩ => by
    by_cases hj : j = i
    · subst hj; exact ⟨⟨_, e0, rfl⟩, s⟩
    · have e' : (ρ.env.set i (some (.ml ds)))[j]? = some (some sl) := e
      rw [List.getElem?_set_ne (Ne.symm hj)] at e'
      exact ⟨⟨sl, e', m⟩, s⟩
  refine ⟨by show σ.length = (ρ.env.set i _).length; rw [List.length_set]; exact r.len, fun b u e => ?_, fun b u e => ?_, ?_, fun j sl e => ?_, fun j k b h1 h2 => r.sep j k b (ow h1) (ow h2), fun j b h => r.oz j b (ow h), fun j b p c h => r.os j b p c (ow h)⟩
  · have : b ≠ a := by rintro rfl; rw [f0] at e; cases e
    rw [upd_ne this]; exact r.fz b u e
  · have : b ≠ a := by rintro rfl; rw [r.oz i b o0] at e; cases e
    rw [upd_ne this]; exact r.zz b u e
  · have sr := r.sr
    show SrcR G (upd H a (.lst vs)) Z ρ.src
    cases q : ρ.src with
    | none => rw [q] at sr; exact sr
    | some s =>
      rw [q] at sr
      obtain ⟨a', c, e, h1, h2, z⟩ := sr
      obtain ⟨n1, n2⟩ := r.os i a a' c o0 e
      exact ⟨a', c, e, by rw [upd_ne n1.symm]; exact h1, by rw [upd_ne n2.symm]; exact h2, z⟩
  · have e' : (ρ.env.set i (some (.ml ds)))[j]? = some (some sl) := e
    by_cases hj : j = i
    · subst hj
      rw [List.getElem?_set_self hi] at e'
      cases e'
      exact ⟨_, s0, a, vs, rfl, upd_same, f0, q⟩
    · rw [List.getElem?_set_ne (Ne.symm hj)] at e'
      obtain ⟨x, ex, z⟩ := r.en j sl e'
      refine ⟨x, ex, ?_⟩
      cases sl with
      | val d => exact z
      | ml ds' =>
        obtain ⟨b, ws, e1, h1, h2, z⟩ := z
        subst e1
        have : b ≠ a := by
          rintro rfl
          exact hj (r.sep j i b ⟨⟨_, e', rfl⟩, ex⟩ o0)
        exact ⟨b, ws, rfl, by rw [upd_ne this]; exact h1, h2, z⟩
/-- a slot's own list is frozen -/
theorem Rel.freeze (r : Rel K Z G σ H ρ) {i : Nat} {a : Addr} {vs : List V} {ds : List D} (e0 : ρ.env[i]? = some (some (.ml ds))) (s0 : σ[i]? = some (some (.ref a))) (h0 : H a = some (.lst vs)) (q : RpA K G vs ds) :
    Rel K Z (G.add a (.lst vs)) σ H (ρ.set i (.val (.lst ds))) := by
  have o0 : Own σ ρ i a := ⟨⟨_, e0, rfl⟩, s0⟩
  obtain ⟨_, _, _, _, f0, _⟩ := r.own o0
  have hi : i < ρ.env.length := (List.getElem?_eq_some_iff.mp e0).1
  have ow : ∀ {j b}, Own σ (ρ.set i (.val (.lst ds))) j b → j ≠ i ∧ Own σ ρ j b := fun {j b} ⟨⟨sl, e, m⟩, s⟩ => by
    have e' : (ρ.env.set i (some (.val (.lst ds))))[j]? = some (some sl) := e
    by_cases hj : j = i
    · subst hj
      rw [List.getElem?_set_self hi] at e'
      cases e'; cases m
    · rw [List.getElem?_set_ne (Ne.symm hj)] at e'
      exact ⟨hj, ⟨sl, e', m⟩, s⟩
  refine ⟨by show σ.length = (ρ.env.set i _).length; rw [List.length_set]; exact r.len, fun b u e => ?_, fun b u e => ?_, ?_, fun j sl e => ?_, fun j k b h1 h2 => r.sep j k b (ow h1).2 (ow h2).2, fun j b h => r.oz j b (ow h).2, fun j b p c h => r.os j b p c (ow h).2⟩
  · have e' : upd G.F a (.lst vs) b = some u := e
    by_cases hb : b = a
    · subst hb; rw [upd_same] at e'; rw [h0]; exact e'
    · rw [upd_ne hb] at e'; exact r.fz b u e'
  · have : b ≠ a := by rintro rfl; rw [r.oz i b o0] at e; cases e
    refine ⟨(r.zz b u e).1, ?_⟩
    show upd G.F a (.lst vs) b = none
    rw [upd_ne this]; exact (r.zz b u e).2
  · have sr := r.sr
    show SrcR (G.add a (.lst vs)) H Z ρ.src
    cases q : ρ.src with
    | none => rw [q] at sr; exact sr
    | some s =>
      rw [q] at sr
      obtain ⟨a', c, e, h1, h2, f1, f2, z⟩ := sr
      obtain ⟨n1, n2⟩ := r.os i a a' c o0 e
      refine ⟨a', c, e, h1, h2, ?_, ?_, z⟩
      · show upd G.F a (.lst vs) a' = none
        rw [upd_ne n1.symm]; exact f1
      · show upd G.F a (.lst vs) c = none
        rw [upd_ne n2.symm]; exact f2
  · have e' : (ρ.env.set i (some (.val (.lst ds))))[j]? = some (some sl) := e
    have l : G.Le (G.add a (.lst vs)) := Gh.le_add f0
    by_cases hj : j = i
    · subst hj
      rw [List.getElem?_set_self hi] at e'
      cases e'
      exact ⟨_, s0, .ref a, rfl, .lst Gh.add_at (q.mono l)⟩
    · rw [List.getElem?_set_ne (Ne.symm hj)] at e'
      obtain ⟨x, ex, z⟩ := r.en j sl e'
      refine ⟨x, ex, ?_⟩
      cases sl with
      | val d =>
        obtain ⟨v, e1, r1⟩ := z
        exact ⟨v, e1, r1.mono l⟩
      | ml ds' =>
        obtain ⟨b, ws, e1, h1, h2, z⟩ := z
        subst e1
        have : b ≠ a := by
          rintro rfl
          exact hj (r.sep j i b ⟨⟨_, e', rfl⟩, ex⟩ o0)
        refine ⟨b, ws, rfl, h1, ?_, z.mono l⟩
        show upd G.F a (.lst vs) b = none
        rw [upd_ne this]; exact h2

/-! ### to a callee and back -/
open Classical in
noncomputable def zone (Z : Hp) (σ : L2.St) (H : Hp) (ρ : PS) : Hp := fun a => if ∃ i, Own σ ρ i a then H a else Z a
theorem zone_own {a : Addr} (h : ∃ i, Own σ ρ i a) : zone Z σ H ρ a = H a := if_pos h
theorem zone_not {a : Addr} (h : ¬ ∃ i, Own σ ρ i a) : zone Z σ H ρ a = Z a := if_neg h
abbrev Base (K : PySem.W.Frag) (Z : Hp) (G : Gh) (H : Hp) (s : Option Src) : Prop := Rel K Z G [] H ⟨[], s⟩
theorem no_own {s : Option Src} {i : Nat} {a : Addr} (h : Own [] ⟨[], s⟩ i a) : False := by
  obtain ⟨⟨sl, e, _⟩, _⟩ := h
  have e' : ([] : List (Option Sl))[i]? = some (some sl) := e
  simp at e'
theorem Base.mk {s : Option Src} (fz : ∀ a o, G.F a = some o → H a = some o) (zz : ∀ a o, Z a = some o → H a = some o ∧ G.F a = none) (sr : SrcR G H Z s) : Base K Z G H s :=
  ⟨rfl, fz, zz, sr, fun i sl e => by
    have e' : ([] : List (Option Sl))[i]? = some (some sl) := e
    simp at e', fun _ _ _ h => (no_own h).elim, fun _ _ h => (no_own h).elim, fun _ _ _ _ h => (no_own h).elim⟩
theorem Rel.down (r : Rel K Z G σ H ρ) : Base K (zone Z σ H ρ) G H ρ.src := by
  refine Base.mk r.fz (fun a o e => ?_) ?_
  · by_cases h : ∃ i, Own σ ρ i a
    · rw [zone_own h] at e
      obtain ⟨i, ho⟩ := h
      obtain ⟨_, _, _, _, f, _⟩ := r.own ho
      exact ⟨e, f⟩
    · rw [zone_not h] at e
      exact r.zz a o e
  · have sr := r.sr
    cases q : ρ.src with
    | none => rw [q] at sr; exact sr
    | some s =>
      rw [q] at sr
      obtain ⟨a, c, e, h1, h2, f1, f2, z1, z2⟩ := sr
      refine ⟨a, c, e, h1, h2, f1, f2, ?_, ?_⟩
      · rw [zone_not fun ⟨i, o⟩ => (r.os i a a c o e).1 rfl]; exact z1
      · rw [zone_not fun ⟨i, o⟩ => (r.os i c a c o e).2 rfl]; exact z2
theorem Rel.up {s' : Option Src} (r : Rel K Z G σ H ρ) (l : G.Le G') (b : Base K (zone Z σ H ρ) G' H' s') : Rel K Z G' σ H' ⟨ρ.env, s'⟩ := by
  have keep : ∀ {i a}, Own σ ρ i a → ∀ o, H a = some o → H' a = some o ∧ G'.F a = none := fun {i a} ho o h => b.zz a o (by rw [zone_own ⟨i, ho⟩]; exact h)
  refine ⟨r.len, b.fz, fun a o e => ?_, ?_, fun i sl e => ?_, r.sep, r.oz, fun i a p c ho e => ?_⟩
  · by_cases h : ∃ i, Own σ ρ i a
    · obtain ⟨i, ho⟩ := h
      rw [r.oz i a ho] at e; cases e
    · exact b.zz a o (by rw [zone_not h]; exact e)
  · have sr := b.sr
    show SrcR G' H' Z s'
    cases s' with
    | none => exact sr
    | some s =>
      obtain ⟨a, c, e, h1, h2, f1, f2, z1, z2⟩ := sr
      have back : ∀ {a}, zone Z σ H ρ a = none → Z a = none := fun {a} z => by
        by_cases h : ∃ i, Own σ ρ i a
        · obtain ⟨i, ho⟩ := h
          exact r.oz i a ho
        · rw [zone_not h] at z; exact z
      exact ⟨a, c, e, h1, h2, f1, f2, back z1, back z2⟩
  · obtain ⟨x, ex, z⟩ := r.en i sl e
    refine ⟨x, ex, ?_⟩
    cases sl with
    | val d =>
      obtain ⟨v, e1, r1⟩ := z
      exact ⟨v, e1, r1.mono l⟩
    | ml ds =>
      obtain ⟨a, vs, e1, h1, h2, z⟩ := z
      subst e1
      obtain ⟨k1, k2⟩ := keep (i := i) (a := a) ⟨⟨_, e, rfl⟩, ex⟩ _ h1
      exact ⟨a, vs, rfl, k1, k2, z.mono l⟩
  · have ho2 : Own σ ρ i a := ho
    obtain ⟨_, vs, _, h, _, _⟩ := r.own ho2
    have sr := b.sr
    cases s' with
    | none =>
      have e0 : G'.sa = none := sr
      rw [e0] at e; cases e
    | some s =>
      obtain ⟨a', c', e', _, _, _, _, z1, z2⟩ := sr
      rw [e'] at e
      cases e
      constructor
      · rintro rfl
        rw [zone_own ⟨i, ho2⟩, h] at z1; cases z1
      · rintro rfl
        rw [zone_own ⟨i, ho2⟩, h] at z2; cases z2
end
end PL
/-! PL2: readings by data, expressions. -/
namespace PL
open PySem PySem.Spec PyProof.Rows L2

/-- an exception: its class's name, its fields -/
structure Ex where
  cls : Str
  fs : List (Str × D)
inductive Rx (α : Type) where
  | ok (a : α) (ρ : PS)
  | er (e : Ex) (ρ : PS)
abbrev FX (α : Type) := PS → Option (Rx α)
def xb {α β : Type} (m : Option (Rx α)) (k : α → PS → Option (Rx β)) : Option (Rx β) := match m with
  | none => none
  | some (.ok a ρ) => k a ρ
  | some (.er e ρ) => some (.er e ρ)
def RpX (K : PySem.W.Frag) (G : Gh) (H : Hp) (e : Ex) (cls : Value) (dd : Option Addr) : Prop :=
  cls = .ref (He.ga K e.cls) ∧ ∃ (d : Addr) (fvs : List (Str × V)), dd = some d ∧ H d = some (.xd fvs) ∧ Paired (fun (p : Str × V) (q : Str × D) => p.1 = q.1 ∧ Rp K G p.2 q.2) fvs e.fs

section
variable {α β γ A B C : Type} {K : PySem.W.Frag} {W : WX} {Z : Hp} {G G' : Gh} {σ : L2.St} {H : Hp} {ρ : PS}
def Post (K : PySem.W.Frag) (W : WX) (Z : Hp) (σ : L2.St) (RV : Gh → B → β → Prop) (G : Gh) (Q : B → Hp → Prop) : Option (Rx β) → Prop
  | none => False
  | some (.ok d ρ') => ∀ v H' G', G.Le G' → Rel K Z G' σ H' ρ' → RV G' v d → Q v H'
  | some (.er e ρ') => ∀ cls dd H' G', G.Le G' → Rel K Z G' σ H' ρ' → RpX K G' H' e cls dd → W cls dd σ H'
theorem Post.le {RV : Gh → B → β → Prop} {Q : B → Hp → Prop} {r : Option (Rx β)} (l : G.Le G') (h : Post K W Z σ RV G Q r) : Post K W Z σ RV G' Q r := by
  cases r with
  | none => exact h
  | some r =>
    cases r with
    | ok d ρ' => exact fun v H' G2 l2 R rv => h v H' G2 (l.trans l2) R rv
    | er e ρ' => exact fun c d H' G2 l2 R rv => h c d H' G2 (l.trans l2) R rv
theorem Post.ok {RV : Gh → B → β → Prop} {Q : B → Hp → Prop} {d : β} {ρ' : PS} {v : B} {H' : Hp} (h : Post K W Z σ RV G Q (some (.ok d ρ'))) (l : G.Le G') (R : Rel K Z G' σ H' ρ') (r : RV G' v d) : Q v H' := h v H' G' l R r
def tG (K : PySem.W.Frag) (W : WX) (RV : Gh → B → β → Prop) (f : FX β) : L2.St → Hp → (B → Hp → Prop) → Prop := fun σ H Q => ∃ Z G ρ, Rel K Z G σ H ρ ∧ Post K W Z σ RV G Q (f ρ)
theorem tG_imp {RV : Gh → B → β → Prop} {f : FX β} {Q Q' : B → Hp → Prop} (h : tG K W RV f σ H Q) (i : ∀ v H', Q v H' → Q' v H') : tG K W RV f σ H Q' := by
  obtain ⟨Z, G, ρ, R, h⟩ := h
  refine ⟨Z, G, ρ, R, ?_⟩
  cases e : f ρ with
  | none => simp only [e, Post] at h
  | some r =>
    cases r with
    | ok d ρ1 =>
      simp only [e, Post] at h
      exact fun v H1 G1 l1 R1 rv => i _ _ (h v H1 G1 l1 R1 rv)
    | er x ρ1 =>
      simp only [e, Post] at h
      exact h
theorem tG_bind {RVa : Gh → A → α → Prop} {RVc : Gh → C → γ → Prop} {f : FX α} {k : α → PS → Option (Rx γ)} {Q : C → Hp → Prop} (h : tG K W RVc (fun ρ => xb (f ρ) k) σ H Q) :
    tG K W RVa f σ H (fun v H1 => ∃ Z G ρ d, Rel K Z G σ H1 ρ ∧ RVa G v d ∧ Post K W Z σ RVc G Q (k d ρ)) := by
  obtain ⟨Z, G, ρ, R, h⟩ := h
  refine ⟨Z, G, ρ, R, ?_⟩
  cases e : f ρ with
  | none => simp only [e, xb, Post] at h
  | some r =>
    cases r with
    | ok d ρ1 =>
      simp only [e, xb] at h
      exact fun v H1 G1 l1 R1 rv => ⟨Z, G1, ρ1, d, R1, rv, h.le l1⟩
    | er x ρ1 =>
      simp only [e, xb] at h
      exact h
theorem tG_bind2 {RVa : Gh → A → α → Prop} {RVb : Gh → B → β → Prop} {RVc : Gh → C → γ → Prop} (mono : ∀ {G G' : Gh} {v : A} {d : α}, G.Le G' → RVa G v d → RVa G' v d) {fa : FX α} {fb : FX β} {k : α → β → PS → Option (Rx γ)} {Q : C → Hp → Prop}
    (h : tG K W RVc (fun ρ => xb (fa ρ) fun a ρ1 => xb (fb ρ1) fun b ρ2 => k a b ρ2) σ H Q) :
    tG K W RVa fa σ H (fun v H1 => tG K W RVb fb σ H1 (fun u H2 => ∃ Z G ρ a b, Rel K Z G σ H2 ρ ∧ RVa G v a ∧ RVb G u b ∧ Post K W Z σ RVc G Q (k a b ρ))) := by
  obtain ⟨Z, G, ρ, R, h⟩ := tG_bind (RVa := RVa) h
  refine ⟨Z, G, ρ, R, ?_⟩
  cases e : fa ρ with
  | none => simp only [e, Post] at h
  | some r =>
    cases r with
    | er x ρ1 => simpa only [e, Post] using h
    | ok a ρ1 =>
      simp only [e, Post] at h
      intro v H1 G1 l1 R1 rv
      obtain ⟨Z2, G2, ρ2, a2, R2, rv2, p2⟩ := h v H1 G1 l1 R1 rv
      refine ⟨Z2, G2, ρ2, R2, ?_⟩
      cases e2 : fb ρ2 with
      | none => simp only [e2, xb, Post] at p2
      | some r =>
        cases r with
        | ok b ρ3 =>
          simp only [e2, xb] at p2
          exact fun u H3 G3 l3 R3 ru => ⟨Z2, G3, ρ3, a2, b, R3, mono l3 rv2, ru, Post.le l3 p2⟩
        | er x ρ3 =>
          simp only [e2, xb] at p2
          exact p2
theorem PE.imp {X : Cx} {e : Expr} {t t' : TE} (h : PE X e t) (i : ∀ σ H Q, t' σ H Q → t σ H Q) : PE X e t' := ⟨fun pins s σ H Q I hq => h.run pins s σ H Q I (i σ H Q hq)⟩
theorem PT.imp {X : Cx} {e : Expr} {t t' : TT} (h : PT X e t) (i : ∀ σ H Q, t' σ H Q → t σ H Q) : PT X e t' := ⟨fun pins s σ H Q I hq => h.run pins s σ H Q I (i σ H Q hq)⟩
theorem PW.imp {X : Cx} {e : Expr} {t t' : TT} (h : PW X e t) (i : ∀ σ H Q, t' σ H Q → t σ H Q) : PW X e t' := ⟨fun wh pins s σ H Q I hq => h.run wh pins s σ H Q I (i σ H Q hq)⟩
theorem PA.imp {X : Cx} {es : List Expr} {t t' : TA} (h : PA X es t) (i : ∀ σ H Q, t' σ H Q → t σ H Q) : PA X es t' := ⟨fun pos pins s σ H Q I hq => h.run pos pins s σ H Q I (i σ H Q hq)⟩
theorem PI.imp {X : Cx} {tg it : Expr} {t t' : TI} (h : PI X tg it t) (i : ∀ σ H Q, t' σ H Q → t σ H Q) : PI X tg it t' := ⟨fun pins s σ H Q I hq => h.run pins s σ H Q I (i σ H Q hq)⟩
theorem PS.imp {X : Cx} {st : Stmt} {t t' : TS} (h : L2.PS X st t) (i : ∀ D σ H, t' D σ H → t D σ H) : L2.PS X st t' := ⟨fun pins s σ H D I hq => h.run pins s σ H D I (i D σ H hq)⟩
theorem PSs.imp {X : Cx} {st : List Stmt} {t t' : TS} (h : PSs X st t) (i : ∀ D σ H, t' D σ H → t D σ H) : PSs X st t' := ⟨fun pins s σ H D I hq => h.run pins s σ H D I (i D σ H hq)⟩
end

abbrev RB : Gh → Bool → Bool → Prop := fun _ b c => b = c
abbrev DE (X : Cx) (W : WX) (e : Expr) (f : FX D) : Prop := PE X e (tG X.K W (Rp X.K) f)
abbrev DT (X : Cx) (W : WX) (e : Expr) (f : FX Bool) : Prop := PT X e (tG X.K W RB f)
abbrev DW (X : Cx) (W : WX) (e : Expr) (f : FX Bool) : Prop := PW X e (tG X.K W RB f)
abbrev DA (X : Cx) (W : WX) (es : List Expr) (f : FX (List D)) : Prop := PA X es (tG X.K W (RpA X.K) f)

/-! ### names, constants -/
def xVar (i : Nat) : FX D := fun ρ => match ρ.env[i]? with
  | some (some (.val d)) => some (.ok d ρ)
  | some (some (.ml ds)) => some (.ok (.lst ds) (ρ.set i (.val (.lst ds))))
  | _ => none
def xC (d : D) : FX D := fun ρ => some (.ok d ρ)
section
variable {X : Cx} {W : WX}
theorem de_var (i : Nat) {x : Str} {pos : Pos} (h : PE X (.Name x pos) (tVar i)) : DE X W (.Name x pos) (xVar i) := by
  refine PE.imp h ?_
  rintro σ H Q ⟨Z, G, ρ, R, p⟩
  unfold xVar at p
  cases e : ρ.env[i]? with
  | none => simp only [e, Post] at p
  | some o =>
    cases o with
    | none => simp only [e, Post] at p
    | some sl =>
      obtain ⟨x, ex, z⟩ := R.en i sl e
      cases sl with
      | val d =>
        simp only [e] at p
        obtain ⟨v, e1, r⟩ := z
        subst e1
        exact ⟨v, ex, p.ok (.refl _) R r⟩
      | ml ds =>
        simp only [e] at p
        obtain ⟨a, vs, e1, h1, h2, r⟩ := z
        subst e1
        refine ⟨.ref a, ex, p.ok (Gh.le_add h2) (R.freeze e ex h1 r) ?_⟩
        exact .lst Gh.add_at (r.mono (Gh.le_add h2))
theorem de_c {e : Expr} {v : V} {d : D} (h : PE X e (tC v)) (r : ∀ G, Rp X.K G v d) : DE X W e (xC d) := by
  refine PE.imp h ?_
  rintro σ H Q ⟨Z, G, ρ, R, p⟩
  exact p.ok (.refl _) R (r G)
theorem de_int {i j pos} : DE X W (.Constant (.int i) j pos) (xC (.int i)) := de_c pe_int fun _ => .int i
theorem de_bl {b j pos} : DE X W (.Constant (.bool b) j pos) (xC (.bl b)) := de_c pe_bl fun _ => .bl b
theorem de_non {j pos} : DE X W (.Constant .none j pos) (xC .non) := de_c pe_non fun _ => .non
theorem de_str {x j pos} (h : sOk x = true := by decide +kernel) : DE X W (.Constant (.str x) j pos) (xC (.str x)) := de_c pe_str fun _ => .str x h

/-! ### operators -/
abbrev O1 := D → Option D
abbrev O2 := D → D → Option D
def DOp (K : PySem.W.Frag) (r : R2) (g : O2) : Prop := ∀ Z G σ H ρ x y dx dy dz Q, Rel K Z G σ H ρ → Rp K G x dx → Rp K G y dy → g dx dy = some dz →
  (∀ v H' G', G.Le G' → Rel K Z G' σ H' ρ → Rp K G' v dz → Q v H') → r x y H Q
def DUn (K : PySem.W.Frag) (r : V → Hp → VK → Prop) (g : O1) : Prop := ∀ Z G σ H ρ x dx dz Q, Rel K Z G σ H ρ → Rp K G x dx → g dx = some dz →
  (∀ v H' G', G.Le G' → Rel K Z G' σ H' ρ → Rp K G' v dz → Q v H') → r x H Q
def DCall (K : PySem.W.Frag) (r : List V → Hp → VK → Prop) (g : List D → Option D) : Prop := ∀ Z G σ H ρ xs ds dz Q, Rel K Z G σ H ρ → RpA K G xs ds → g ds = some dz →
  (∀ v H' G', G.Le G' → Rel K Z G' σ H' ρ → Rp K G' v dz → Q v H') → r xs H Q
def ret (o : Option D) : PS → Option (Rx D) := fun ρ => match o with
  | none => none
  | some d => some (.ok d ρ)
def xBin (g : O2) (fa fb : FX D) : FX D := fun ρ => xb (fa ρ) fun a ρ1 => xb (fb ρ1) fun b ρ2 => ret (g a b) ρ2
def xUn (g : O1) (fa : FX D) : FX D := fun ρ => xb (fa ρ) fun a ρ1 => ret (g a) ρ1
def xBlt (g : List D → Option D) (fa : FX (List D)) : FX D := fun ρ => xb (fa ρ) fun a ρ1 => ret (g a) ρ1
variable {a b : Expr} {fa fb : FX D} {pos : Pos}
theorem ret_post {K : PySem.W.Frag} {Z : Hp} {σ : L2.St} {G : Gh} {Q : VK} {o : Option D} {ρ : PS} (h : Post K W Z σ (Rp K) G Q (ret o ρ)) : ∃ d, o = some d ∧ ∀ v H' G', G.Le G' → Rel K Z G' σ H' ρ → Rp K G' v d → Q v H' := by
  cases o with
  | none => exact False.elim h
  | some d => exact ⟨d, rfl, h⟩
theorem de_op {op : Operator} {r : R2} {g : O2} (ho : OpR X (binaryOp op) r) (hd : DOp X.K r g) (ha : DE X W a fa) (hb : DE X W b fb) : DE X W (.BinOp a op b pos) (xBin g fa fb) := by
  refine PE.imp (pe_op ho ha hb) ?_
  rintro σ H Q h
  refine tG_imp (tG_bind2 (RVa := Rp X.K) (RVb := Rp X.K) (fun l r => r.mono l) h) fun v H1 h1 => tG_imp h1 fun u H2 h2 => ?_
  obtain ⟨Z4, G4, ρ4, d3, d4, R4, r4, r5, p4⟩ := h2
  obtain ⟨dz, ez, q⟩ := ret_post p4
  exact hd _ _ _ _ _ _ _ _ _ _ _ R4 r4 r5 ez q
theorem de_un {op : UnaryOp} {r : V → Hp → VK → Prop} {g : O1} (ho : UnR X (unaryOp op) r) (hd : DUn X.K r g) (ha : DE X W a fa) : DE X W (.UnaryOp op a pos) (xUn g fa) := by
  refine PE.imp (pe_un ho ha) ?_
  rintro σ H Q h
  refine tG_imp (tG_bind (RVa := Rp X.K) h) fun v H1 h1 => ?_
  obtain ⟨Z, G, ρ, d, R, r1, p⟩ := h1
  obtain ⟨dz, ez, q⟩ := ret_post p
  exact hd _ _ _ _ _ _ _ _ _ R r1 ez q
/-! ### comparisons -/
theorem de_cmp {op : CmpOp} {r : R2} {g : O2} (ho : OpR X (compareOp op) r) (hd : DOp X.K r g) (ha : DE X W a fa) (hb : DE X W b fb) (hm : behindInMarks op b = false) : DE X W (.Compare a [op] [b] pos) (xBin g fa fb) := by
  refine PE.imp (pe_cmpR ho ha hb hm) ?_
  rintro σ H Q h
  refine tG_imp (tG_bind2 (RVa := Rp X.K) (RVb := Rp X.K) (fun l r => r.mono l) h) fun v H1 h1 => tG_imp h1 fun u H2 h2 => ?_
  obtain ⟨Z4, G4, ρ4, d3, d4, R4, r4, r5, p4⟩ := h2
  obtain ⟨dz, ez, q⟩ := ret_post p4
  exact hd _ _ _ _ _ _ _ _ _ _ _ R4 r4 r5 ez q
/-- a datum that is a bool -/
def asB (f : FX D) : FX Bool := fun ρ => xb (f ρ) fun d ρ1 => match d with
  | .bl b => some (.ok b ρ1)
  | _ => none
theorem asB_post {K : PySem.W.Frag} {Z : Hp} {σ : L2.St} {G : Gh} {Q : Bool → Hp → Prop} {d : D} {ρ : PS} (h : Post K W Z σ RB G Q (match d with | .bl b => some (.ok b ρ) | _ => none)) : ∃ b, d = .bl b ∧ ∀ H' G', G.Le G' → Rel K Z G' σ H' ρ → Q b H' := by
  cases d with
  | bl b => exact ⟨b, rfl, fun H' G' l R => h b H' G' l R rfl⟩
  | _ => exact False.elim h
theorem tB_of {K : PySem.W.Frag} {f : FX D} {σ : L2.St} {H : Hp} {Q : Bool → Hp → Prop} (h : tG K W RB (asB f) σ H Q) : tG K W (Rp K) f σ H (fun x H1 => ∃ c, x = .bl c ∧ Q c H1) := by
  refine tG_imp (tG_bind (RVa := Rp K) h) fun v H1 h1 => ?_
  obtain ⟨Z, G, ρ, d, R, r1, p⟩ := h1
  obtain ⟨b, rfl, q⟩ := asB_post p
  cases r1
  exact ⟨b, rfl, q _ _ (.refl _) R⟩
theorem dt_cmp {op : CmpOp} {r : R2} {g : O2} (ho : OpR X (compareOp op) r) (hd : DOp X.K r g) (ha : DE X W a fa) (hb : DE X W b fb) (hm : behindInMarks op b = false) : DT X W (.Compare a [op] [b] pos) (asB (xBin g fa fb)) := by
  refine PT.imp (pt_cmpR ho ha hb hm) ?_
  rintro σ H Q h
  have h := tB_of h
  refine tG_imp (tG_bind2 (RVa := Rp X.K) (RVb := Rp X.K) (fun l r => r.mono l) h) fun v H1 h1 => tG_imp h1 fun u H2 h2 => ?_
  obtain ⟨Z4, G4, ρ4, d3, d4, R4, r4, r5, p4⟩ := h2
  obtain ⟨dz, ez, q⟩ := ret_post p4
  exact hd _ _ _ _ _ _ _ _ _ _ _ R4 r4 r5 ez q
theorem dt_val {e : Expr} {f : FX D} (h : DE X W e f) (he : ∀ whole, isTrue e X.env whole = (do let v ← whole; standAt e.pos; holding [v] (truthy v)) := by intro _; rfl) : DT X W e (asB f) := by
  refine PT.imp (pt_val h he) ?_
  rintro σ H Q h
  exact tB_of h
/-! ### and, or, not, if -/
def xAnd (f g : FX Bool) : FX Bool := fun ρ => xb (f ρ) fun b ρ1 => if b = true then g ρ1 else some (.ok false ρ1)
def xOr (f g : FX Bool) : FX Bool := fun ρ => xb (f ρ) fun b ρ1 => if b = true then some (.ok true ρ1) else g ρ1
def xNot (f : FX Bool) : FX Bool := fun ρ => xb (f ρ) fun b ρ1 => some (.ok (!b) ρ1)
def xIf {α : Type} (c : FX Bool) (f g : FX α) : FX α := fun ρ => xb (c ρ) fun b ρ1 => if b = true then f ρ1 else g ρ1
variable {fc fd : FX Bool} {rest : List Expr}
theorem dw_and1 (ha : DT X W a fc) : DW X W (.BoolOp .And [a] pos) fc := pw_and1 ha
theorem dw_or1 (ha : DT X W a fc) : DW X W (.BoolOp .Or [a] pos) fc := pw_or1 ha
theorem tG_if {K : PySem.W.Frag} {B β : Type} {RV : Gh → B → β → Prop} {Z : Hp} {G : Gh} {σ : L2.St} {H : Hp} {ρ : PS} {Q : B → Hp → Prop} {b : Bool} {f g : FX β} (R : Rel K Z G σ H ρ) (p : Post K W Z σ RV G Q (if b = true then f ρ else g ρ)) :
    if b = true then tG K W RV f σ H Q else tG K W RV g σ H Q := by
  cases b with
  | true =>
    rw [if_pos rfl] at p ⊢
    exact ⟨Z, G, ρ, R, p⟩
  | false =>
    rw [if_neg Bool.false_ne_true] at p ⊢
    exact ⟨Z, G, ρ, R, p⟩
theorem dw_and (ha : DT X W a fc) (hb : DW X W (.BoolOp .And (b :: rest) pos) fd) : DW X W (.BoolOp .And (a :: b :: rest) pos) (xAnd fc fd) := by
  refine PW.imp (pw_and ha hb) ?_
  rintro σ H Q h
  refine tG_imp (tG_bind (RVa := RB) h) fun v H1 h1 => ?_
  obtain ⟨Z, G, ρ, d, R, r1, p⟩ := h1
  have r1 : v = d := r1
  subst r1
  cases v with
  | true => exact ⟨Z, G, ρ, R, p⟩
  | false => exact p.ok (.refl _) R rfl
theorem dw_or (ha : DT X W a fc) (hb : DW X W (.BoolOp .Or (b :: rest) pos) fd) : DW X W (.BoolOp .Or (a :: b :: rest) pos) (xOr fc fd) := by
  refine PW.imp (pw_or ha hb) ?_
  rintro σ H Q h
  refine tG_imp (tG_bind (RVa := RB) h) fun v H1 h1 => ?_
  obtain ⟨Z, G, ρ, d, R, r1, p⟩ := h1
  have r1 : v = d := r1
  subst r1
  cases v with
  | false => exact ⟨Z, G, ρ, R, p⟩
  | true => exact p.ok (.refl _) R rfl
theorem dt_not (ha : DT X W a fc) : DT X W (.UnaryOp .Not a pos) (xNot fc) := by
  refine PT.imp (pt_not ha) ?_
  rintro σ H Q h
  refine tG_imp (tG_bind (RVa := RB) h) fun v H1 h1 => ?_
  obtain ⟨Z, G, ρ, d, R, r1, p⟩ := h1
  have r1 : v = d := r1
  subst r1
  exact p.ok (.refl _) R rfl
theorem de_if {c : Expr} (hc : DT X W c fc) (ha : DE X W a fa) (hb : DE X W b fb) : DE X W (.IfExp c a b pos) (xIf fc fa fb) := by
  refine PE.imp (pe_ifExp hc ha hb) ?_
  rintro σ H Q h
  refine tG_imp (tG_bind (RVa := RB) h) fun v H1 h1 => ?_
  obtain ⟨Z, G, ρ, d, R, r1, p⟩ := h1
  have r1 : v = d := r1
  subst r1
  exact tG_if R p
/-- as values, of bools -/
def toB (f : FX Bool) : FX D := fun ρ => xb (f ρ) fun b ρ1 => some (.ok (.bl b) ρ1)
def xAndV (f g : FX D) : FX D := fun ρ => xb (f ρ) fun d ρ1 => match d with
  | .bl b => if b = true then g ρ1 else some (.ok (.bl false) ρ1)
  | _ => none
def xOrV (f g : FX D) : FX D := fun ρ => xb (f ρ) fun d ρ1 => match d with
  | .bl b => if b = true then some (.ok (.bl true) ρ1) else g ρ1
  | _ => none
def xNotV (f : FX D) : FX D := fun ρ => xb (f ρ) fun d ρ1 => match d with
  | .bl b => some (.ok (.bl (!b)) ρ1)
  | _ => none
theorem de_one {op} (h : DE X W a fa) : DE X W (.BoolOp op [a] pos) fa := pe_one h
theorem de_and (ha : DE X W a fa) (hb : DE X W (.BoolOp .And (b :: rest) pos) fb) : DE X W (.BoolOp .And (a :: b :: rest) pos) (xAndV fa fb) := by
  refine PE.imp (pe_and ha hb) ?_
  rintro σ H Q h
  refine tG_imp (tG_bind (RVa := Rp X.K) h) fun v H1 h1 => ?_
  obtain ⟨Z, G, ρ, d, R, r1, p⟩ := h1
  cases d with
  | bl c =>
    cases r1
    refine ⟨c, rfl, ?_⟩
    cases c with
    | true => exact ⟨Z, G, ρ, R, p⟩
    | false => exact p.ok (.refl _) R (.bl _)
  | _ => exact False.elim p
theorem de_or (ha : DE X W a fa) (hb : DE X W (.BoolOp .Or (b :: rest) pos) fb) : DE X W (.BoolOp .Or (a :: b :: rest) pos) (xOrV fa fb) := by
  refine PE.imp (pe_or ha hb) ?_
  rintro σ H Q h
  refine tG_imp (tG_bind (RVa := Rp X.K) h) fun v H1 h1 => ?_
  obtain ⟨Z, G, ρ, d, R, r1, p⟩ := h1
  cases d with
  | bl c =>
    cases r1
    refine ⟨c, rfl, ?_⟩
    cases c with
    | false => exact ⟨Z, G, ρ, R, p⟩
    | true => exact p.ok (.refl _) R (.bl _)
  | _ => exact False.elim p
theorem de_not (ha : DE X W a fa) : DE X W (.UnaryOp .Not a pos) (xNotV fa) := by
  refine PE.imp (pe_not ha) ?_
  rintro σ H Q h
  refine tG_imp (tG_bind (RVa := Rp X.K) h) fun v H1 h1 => ?_
  obtain ⟨Z, G, ρ, d, R, r1, p⟩ := h1
  cases d with
  | bl c =>
    cases r1
    exact ⟨c, rfl, p.ok (.refl _) R (.bl _)⟩
  | _ => exact False.elim p
/-! ### argument lists, displays -/
def xNil : FX (List D) := fun ρ => some (.ok [] ρ)
def xCons (f : FX D) (g : FX (List D)) : FX (List D) := fun ρ => xb (f ρ) fun d ρ1 => xb (g ρ1) fun ds ρ2 => some (.ok (d :: ds) ρ2)
variable {es : List Expr} {fs : FX (List D)}
theorem da_nil : DA X W [] xNil := by
  refine PA.imp pa_nil ?_
  rintro σ H Q ⟨Z, G, ρ, R, p⟩
  exact p.ok (.refl _) R .nil
theorem da_cons (ha : DE X W a fa) (hr : DA X W es fs) (hs : starEach (a :: es) X.env = (false, eval a X.env) :: starEach es X.env := by rfl) : DA X W (a :: es) (xCons fa fs) := by
  refine PA.imp (pa_cons ha hr hs) ?_
  rintro σ H Q h
  refine tG_imp (tG_bind2 (RVa := Rp X.K) (RVb := RpA X.K) (fun l r => r.mono l) h) fun v H1 h1 => tG_imp h1 fun u H2 h2 => ?_
  obtain ⟨Z4, G4, ρ4, d3, d4, R4, r4, r5, p4⟩ := h2
  exact p4.ok (.refl _) R4 (.cons r4 r5)
def smallN : Nat := 100000
theorem smallN_le {n : Nat} (h : n ≤ smallN) : n ≤ sizeLine := Nat.le_trans h (by decide)
theorem smallN_lt {n : Nat} (h : n ≤ smallN) : n < sizeLine := Nat.lt_of_le_of_lt h (by decide)
def mkTup (ds : List D) : Option D := if ds.length ≤ smallN then some (.tup ds) else none
def mkLst (ds : List D) : Option D := if ds.length ≤ smallN then some (.lst ds) else none
def xTup (f : FX (List D)) : FX D := xBlt mkTup f
def xLst (f : FX (List D)) : FX D := xBlt mkLst f
theorem mk_tup {K : PySem.W.Frag} {Z : Hp} {G : Gh} {σ : L2.St} {H : Hp} {ρ : PS} {xs : List V} {ds : List D} {Q : VK} (R : Rel K Z G σ H ρ) (r : RpA K G xs ds) (q : ∀ v H' G', G.Le G' → Rel K Z G' σ H' ρ → Rp K G' v (.tup ds) → Q v H') : ∀ p, H p = none → Q (.ref p) (upd H p (.tup xs)) := fun p hp =>
  q _ _ _ (Gh.le_add (R.fnone hp)) (R.alloc hp _) (.tup (.inl (.inl Gh.add_at)) (r.mono (Gh.le_add (R.fnone hp))))
theorem mk_lst {K : PySem.W.Frag} {Z : Hp} {G : Gh} {σ : L2.St} {H : Hp} {ρ : PS} {xs : List V} {ds : List D} {Q : VK} (R : Rel K Z G σ H ρ) (r : RpA K G xs ds) (q : ∀ v H' G', G.Le G' → Rel K Z G' σ H' ρ → Rp K G' v (.lst ds) → Q v H') : ∀ p, H p = none → Q (.ref p) (upd H p (.lst xs)) := fun p hp =>
  q _ _ _ (Gh.le_add (R.fnone hp)) (R.alloc hp _) (.lst Gh.add_at (r.mono (Gh.le_add (R.fnone hp))))
theorem mkTup_some {ds : List D} {d : D} (h : mkTup ds = some d) : ds.length ≤ smallN ∧ d = .tup ds := by
  unfold mkTup at h
  split at h
  · cases h; exact ⟨by assumption, rfl⟩
  · cases h
theorem mkLst_some {ds : List D} {d : D} (h : mkLst ds = some d) : ds.length ≤ smallN ∧ d = .lst ds := by
  unfold mkLst at h
  split at h
  · cases h; exact ⟨by assumption, rfl⟩
  · cases h
theorem de_tup {k} (h : DA X W es fs) : DE X W (.Tuple es k pos) (xTup fs) := by
  refine PE.imp (pe_tup h) ?_
  rintro σ H Q h
  refine tG_imp (tG_bind (RVa := RpA X.K) h) fun v H1 h1 => ?_
  obtain ⟨Z, G, ρ, d, R, r1, p⟩ := h1
  obtain ⟨dz, ez, q⟩ := ret_post p
  obtain ⟨hz, rfl⟩ := mkTup_some ez
  exact ⟨by rw [r1.length]; exact smallN_le hz, mk_tup R r1 q⟩
theorem de_lst (h : DA X W es fs) : DE X W (.List es pos) (xLst fs) := by
  refine PE.imp (pe_lst h) ?_
  rintro σ H Q h
  refine tG_imp (tG_bind (RVa := RpA X.K) h) fun v H1 h1 => ?_
  obtain ⟨Z, G, ρ, d, R, r1, p⟩ := h1
  obtain ⟨dz, ez, q⟩ := ret_post p
  obtain ⟨hz, rfl⟩ := mkLst_some ez
  exact ⟨by rw [r1.length]; exact smallN_le hz, mk_lst R r1 q⟩
/-! ### built-in functions -/
variable {e : Expr} {x : Str} {p : Pos} {r : List V → Hp → VK → Prop} {g : List D → Option D} {id T : String}
theorem de_blt (hc : CallR X (.builtin id) r) (hd : DCall X.K r g) (hg : Gl X x) (hm : X.mg x = none) (hv : bootBuiltins x = some (.builtin id)) (ha : DA X W (e :: es) fs) (hn : x ≠ "__name__" := by decide) (hdb : (x == ("__debug__" : Str)) = false := by decide)
    (he : starEach (e :: es) X.env = (false, eval e X.env) :: starEach es X.env := by rfl) (hpl : (backTo pos (starEach es X.env)).any (·.1) = false := by rfl) : DE X W (.Call (.Name x p) (e :: es) [] pos) (xBlt g fs) := by
  refine PE.imp (pe_callB hc hg hm hv ha hn hdb he hpl) ?_
  rintro σ H Q h
  refine tG_imp (tG_bind (RVa := RpA X.K) h) fun v H1 h1 => ?_
  obtain ⟨Z, G, ρ, d, R, r1, p⟩ := h1
  obtain ⟨dz, ez, q⟩ := ret_post p
  exact hd _ _ _ _ _ _ _ _ _ R r1 ez q
theorem de_bty (hc : CallR X (.type T) r) (hd : DCall X.K r g) (hg : Gl X x) (hm : X.mg x = none) (hv : bootBuiltins x = some (.type T)) (ha : DA X W (e :: es) fs) (hn : x ≠ "__name__" := by decide) (hdb : (x == ("__debug__" : Str)) = false := by decide)
    (he : starEach (e :: es) X.env = (false, eval e X.env) :: starEach es X.env := by rfl) (hpl : (backTo pos (starEach es X.env)).any (·.1) = false := by rfl) : DE X W (.Call (.Name x p) (e :: es) [] pos) (xBlt g fs) := by
  refine PE.imp (pe_callTy hc hg hm hv ha hn hdb he hpl) ?_
  rintro σ H Q h
  refine tG_imp (tG_bind (RVa := RpA X.K) h) fun v H1 h1 => ?_
  obtain ⟨Z, G, ρ, d, R, r1, p⟩ := h1
  obtain ⟨dz, ez, q⟩ := ret_post p
  exact hd _ _ _ _ _ _ _ _ _ R r1 ez q
end
end PL
/-! PL3: statements, loops, defs. -/
namespace PL
open PySem PySem.Spec PyProof.Rows L2

inductive Out where
  | nx (ρ : PS) | rt (d : D) (ρ : PS) | bk (ρ : PS) | ct (ρ : PS) | er (e : Ex) (ρ : PS)
abbrev FS := PS → Option Out
section
variable {K : PySem.W.Frag} {W : WX} {Z : Hp} {G G' : Gh} {σ : L2.St} {H : Hp} {ρ : PS}
def PostS (K : PySem.W.Frag) (W : WX) (Z : Hp) (G : Gh) (E : Ends) : Option Out → Prop
  | none => False
  | some (.nx ρ') => ∀ σ' H' G', G.Le G' → Rel K Z G' σ' H' ρ' → E.nx σ' H'
  | some (.bk ρ') => ∀ σ' H' G', G.Le G' → Rel K Z G' σ' H' ρ' → E.bk σ' H'
  | some (.ct ρ') => ∀ σ' H' G', G.Le G' → Rel K Z G' σ' H' ρ' → E.ct σ' H'
  | some (.rt d ρ') => ∀ v σ' H' G', G.Le G' → Rel K Z G' σ' H' ρ' → Rp K G' v d → E.rt v H'
  | some (.er e ρ') => ∀ cls dd σ' H' G', G.Le G' → Rel K Z G' σ' H' ρ' → RpX K G' H' e cls dd → W cls dd σ' H'
theorem PostS.le {E : Ends} {r : Option Out} (l : G.Le G') (h : PostS K W Z G E r) : PostS K W Z G' E r := by
  cases r with
  | none => exact h
  | some r =>
    cases r with
    | nx ρ' => exact fun σ' H' G2 l2 R => h σ' H' G2 (l.trans l2) R
    | bk ρ' => exact fun σ' H' G2 l2 R => h σ' H' G2 (l.trans l2) R
    | ct ρ' => exact fun σ' H' G2 l2 R => h σ' H' G2 (l.trans l2) R
    | rt d ρ' => exact fun v σ' H' G2 l2 R r => h v σ' H' G2 (l.trans l2) R r
    | er e ρ' => exact fun c d σ' H' G2 l2 R r => h c d σ' H' G2 (l.trans l2) R r
def tS (K : PySem.W.Frag) (W : WX) (f : FS) : TS := fun E σ H => ∃ Z G ρ, Rel K Z G σ H ρ ∧ PostS K W Z G E (f ρ)
abbrev DS (X : Cx) (W : WX) (st : Stmt) (f : FS) : Prop := L2.PS X st (tS X.K W f)
abbrev DSs (X : Cx) (W : WX) (st : List Stmt) (f : FS) : Prop := L2.PSs X st (tS X.K W f)

/-- an expression, then a statement's rest -/
def xbS {α : Type} (m : Option (Rx α)) (k : α → PS → Option Out) : Option Out := match m with
  | none => none
  | some (.ok a ρ) => k a ρ
  | some (.er e ρ) => some (.er e ρ)
theorem tS_bind {A α : Type} {RV : Gh → A → α → Prop} {f : FX α} {k : α → PS → Option Out} {E : Ends} (h : tS K W (fun ρ => xbS (f ρ) k) E σ H) :
    tG K W RV f σ H (fun v H1 => ∃ Z G ρ d, Rel K Z G σ H1 ρ ∧ RV G v d ∧ PostS K W Z G E (k d ρ)) := by
  obtain ⟨Z, G, ρ, R, h⟩ := h
  refine ⟨Z, G, ρ, R, ?_⟩
  cases e : f ρ with
  | none => simp only [e, xbS, PostS] at h
  | some r =>
    cases r with
    | ok d ρ1 =>
      simp only [e, xbS] at h
      exact fun v H1 G1 l1 R1 rv => ⟨Z, G1, ρ1, d, R1, rv, PostS.le l1 h⟩
    | er x ρ1 =>
      simp only [e, xbS, PostS] at h
      exact fun c d H1 G1 l1 R1 rv => h c d σ H1 G1 l1 R1 rv
def xNext : FS := fun ρ => some (.nx ρ)
def xSeq (f g : FS) : FS := fun ρ => match f ρ with
  | some (.nx ρ1) => g ρ1
  | r => r
theorem tS_seq {f g : FS} {E : Ends} (h : tS K W (xSeq f g) E σ H) : tS K W f { E with nx := fun σ1 H1 => tS K W g E σ1 H1 } σ H := by
  obtain ⟨Z, G, ρ, R, h⟩ := h
  refine ⟨Z, G, ρ, R, ?_⟩
  unfold xSeq at h
  cases e : f ρ with
  | none => simp only [e, PostS] at h
  | some r =>
    cases r with
    | nx ρ1 =>
      simp only [e] at h
      exact fun σ1 H1 G1 l1 R1 => ⟨Z, G1, ρ1, R1, PostS.le l1 h⟩
    | bk ρ1 => simp only [e] at h; exact h
    | ct ρ1 => simp only [e] at h; exact h
    | rt d ρ1 => simp only [e] at h; exact h
    | er x ρ1 => simp only [e] at h; exact h
end
section
variable {X : Cx} {W : WX} {st : Stmt} {rest : List Stmt} {f g : FS} {e : Expr} {fe : FX D} {pos : Pos}
theorem dss_nil : DSs X W [] xNext := by
  refine PSs.imp pss_nil ?_
  rintro E σ H ⟨Z, G, ρ, R, h⟩
  exact h σ H G (.refl _) R
theorem dss_cons (h1 : DS X W st f) (h2 : DSs X W rest g) : DSs X W (st :: rest) (xSeq f g) :=
  PSs.imp (pss_cons h1 h2) fun E σ H h => tS_seq h
theorem dss_one (h1 : DS X W st f) : DSs X W [st] f := pss_one h1
def xBreak : FS := fun ρ => some (.bk ρ)
def xCont : FS := fun ρ => some (.ct ρ)
theorem ds_pass : DS X W (.Pass pos) xNext := PS.imp ps_pass fun E σ H ⟨Z, G, ρ, R, h⟩ => h σ H G (.refl _) R
theorem ds_break : DS X W (.Break pos) xBreak := PS.imp ps_break fun E σ H ⟨Z, G, ρ, R, h⟩ => h σ H G (.refl _) R
theorem ds_continue : DS X W (.Continue pos) xCont := PS.imp ps_continue fun E σ H ⟨Z, G, ρ, R, h⟩ => h σ H G (.refl _) R
def xDrop (f : FX D) : FS := fun ρ => xbS (f ρ) fun _ ρ1 => some (.nx ρ1)
theorem ds_expr (he : DE X W e fe) (hs : swapsWith e none pos.line X.env = pure false := by rfl) : DS X W (.Expr e pos) (xDrop fe) := by
  refine PS.imp (ps_expr he hs) ?_
  rintro E σ H h
  refine tG_imp (tS_bind (RV := Rp X.K) h) fun v H1 ⟨Z, G, ρ, d, R, r, p⟩ => p σ H1 G (.refl _) R
def xRet (f : FX D) : FS := fun ρ => xbS (f ρ) fun d ρ1 => some (.rt d ρ1)
theorem ds_ret (he : DE X W e fe) : DS X W (.Return (some e) pos) (xRet fe) := by
  refine PS.imp (ps_ret he) ?_
  rintro E σ H h
  refine tG_imp (tS_bind (RV := Rp X.K) h) fun v H1 ⟨Z, G, ρ, d, R, r, p⟩ => p v σ H1 G (.refl _) R r
def xRetN : FS := fun ρ => some (.rt .non ρ)
theorem ds_retN : DS X W (.Return none pos) xRetN := PS.imp ps_retN fun E σ H ⟨Z, G, ρ, R, h⟩ => h .non σ H G (.refl _) R .non
def xIfS (c : FX Bool) (f g : FS) : FS := fun ρ => xbS (c ρ) fun b ρ1 => if b = true then f ρ1 else g ρ1
theorem ds_if {c : Expr} {fc : FX Bool} {a b : List Stmt} (hc : DT X W c fc) (ha : DSs X W a f) (hb : DSs X W b g) : DS X W (.If c a b pos) (xIfS fc f g) := by
  refine PS.imp (ps_if hc ha hb) ?_
  rintro E σ H h
  refine tG_imp (tS_bind (RV := RB) h) fun v H1 ⟨Z, G, ρ, d, R, r, p⟩ => ?_
  have r : v = d := r
  subst r
  cases v with
  | true => exact ⟨Z, G, ρ, R, p⟩
  | false => exact ⟨Z, G, ρ, R, p⟩

/-! ### targets -/
abbrev FG := D → PS → Option PS
def PostG (K : PySem.W.Frag) (Z : Hp) (G : Gh) (Q : L2.St → Hp → Prop) : Option PS → Prop
  | none => False
  | some ρ' => ∀ σ' H' G', G.Le G' → Rel K Z G' σ' H' ρ' → Q σ' H'
theorem PostG.le {K : PySem.W.Frag} {Z : Hp} {G G' : Gh} {Q : L2.St → Hp → Prop} {r : Option PS} (l : G.Le G') (h : PostG K Z G Q r) : PostG K Z G' Q r := by
  cases r with
  | none => exact h
  | some ρ => exact fun σ' H' G2 l2 R => h σ' H' G2 (l.trans l2) R
def tGt (K : PySem.W.Frag) (f : FG) : TG := fun v σ H Q => ∃ Z G ρ d, Rel K Z G σ H ρ ∧ Rp K G v d ∧ PostG K Z G Q (f d ρ)
abbrev FGs := List D → PS → Option PS
def tGts (K : PySem.W.Frag) (f : FGs) : TGs := fun vs σ H Q => ∃ Z G ρ ds, Rel K Z G σ H ρ ∧ RpA K G vs ds ∧ PostG K Z G Q (f ds ρ)
abbrev DG (X : Cx) (tg : Expr) (f : FG) : Prop := PG X tg (tGt X.K f)
abbrev DGs (X : Cx) (tg : List Expr) (f : FGs) : Prop := PGs X tg (tGts X.K f)
theorem PG.imp {X : Cx} {tg : Expr} {t t' : TG} (h : PG X tg t) (i : ∀ v σ H Q, t' v σ H Q → t v σ H Q) : PG X tg t' := ⟨fun pins s σ H v u Q I r hq => h.run pins s σ H v u Q I r (i v σ H Q hq)⟩
theorem PGs.imp {X : Cx} {tg : List Expr} {t t' : TGs} (h : PGs X tg t) (i : ∀ v σ H Q, t' v σ H Q → t v σ H Q) : PGs X tg t' := ⟨fun pins s σ H v u Q I r hq => h.run pins s σ H v u Q I r (i v σ H Q hq)⟩
def gN (i : Nat) : FG := fun d ρ => some (ρ.set i (.val d))
theorem dg_name {i : Nat} {tg : Expr} (h : PG X tg (gName i)) : DG X tg (gN i) := by
  refine PG.imp h ?_
  rintro v σ H Q ⟨Z, G, ρ, d, R, r, p⟩
  exact p _ _ G (.refl _) (R.setVal r)
def gsNil : FGs := fun ds ρ => match ds with
  | [] => some ρ
  | _ => none
def gsCons (f : FG) (g : FGs) : FGs := fun ds ρ => match ds with
  | [] => none
  | d :: ds => match f d ρ with
    | none => none
    | some ρ1 => g ds ρ1
theorem dgs_nil : DGs X [] gsNil := by
  refine PGs.imp pgs_nil ?_
  rintro v σ H Q ⟨Z, G, ρ, d, R, r, p⟩
  cases r with
  | nil => exact ⟨rfl, p _ _ G (.refl _) R⟩
  | cons a b => exact False.elim p
theorem dgs_cons {tg : Expr} {tgs : List Expr} {fg : FG} {fgs : FGs} (h1 : DG X tg fg) (h2 : DGs X tgs fgs)
    (hs : (assignEach (tg :: tgs) X.env).map (·.2) = assign tg X.env :: (assignEach tgs X.env).map (·.2) := by rfl) : DGs X (tg :: tgs) (gsCons fg fgs) := by
  refine PGs.imp (pgs_cons h1 h2 hs) ?_
  rintro v σ H Q ⟨Z, G, ρ, d, R, r, p⟩
  cases r with
  | nil => exact False.elim p
  | @cons v vs d ds a b =>
    refine ⟨v, vs, rfl, Z, G, ρ, d, R, a, ?_⟩
    unfold gsCons at p
    cases e : fg d ρ with
    | none => simp only [e, PostG] at p
    | some ρ1 =>
      simp only [e] at p
      exact fun σ1 H1 G1 l1 R1 => ⟨Z, G1, ρ1, ds, R1, b.mono l1, PostG.le l1 p⟩
def gTp (n : Nat) (f : FGs) : FG := fun d ρ => match d with
  | .tup ds => if ds.length = n then f ds ρ else none
  | _ => none
theorem dg_tup {tgs : List Expr} {k : Nat} {fgs : FGs} {n : Nat} (hc : X.calm = true) (h : DGs X tgs fgs)
    (hn : (assignEach tgs X.env).length = n := by rfl) (hst : (assignEach tgs X.env).findIdx? (·.1) = none := by rfl) : DG X (.Tuple tgs k pos) (gTp n fgs) := by
  refine PG.imp (pg_tup hc h hn hst) ?_
  rintro v σ H Q ⟨Z, G, ρ, d, R, r, p⟩
  cases r with
  | @tup a xs ds s t =>
    unfold gTp at p
    by_cases hl : ds.length = n
    · simp only [if_pos hl] at p
      exact ⟨a, xs, rfl, sqT_mono R.fz s, by rw [t.length]; exact hl, Z, G, ρ, ds, R, t, p⟩
    · simp only [if_neg hl, PostG] at p
  | _ => exact False.elim p
/-! ### assignments -/
def xAsg (f : FX D) (g : FG) : FS := fun ρ => xbS (f ρ) fun d ρ1 => match g d ρ1 with
  | none => none
  | some ρ2 => some (.nx ρ2)
theorem asg_post {K : PySem.W.Frag} {Z : Hp} {G : Gh} {E : Ends} {o : Option PS} (p : PostS K W Z G E (match o with | none => none | some ρ2 => some (.nx ρ2))) : PostG K Z G E.nx o := by
  cases o with
  | none => exact p
  | some ρ => exact p
theorem ds_asg {tg : Expr} {fg : FG} (he : DE X W e fe) (hg : DG X tg fg) (hs : swapsWithSole [tg] e pos.line X.env = pure false := by rfl) (hw : swappedStores [tg] e X.env = pure none := by rfl)
    (h1 : (assignEach [tg] X.env).map (·.2) = [assign tg X.env] := by rfl) : DS X W (.Assign [tg] e pos) (xAsg fe fg) := by
  refine PS.imp (ps_asg he hg hs hw h1) ?_
  rintro E σ H h
  exact tG_imp (tS_bind (RV := Rp X.K) h) fun v H1 ⟨Z, G, ρ, d, R, r, p⟩ => ⟨Z, G, ρ, d, R, r, asg_post p⟩
theorem ds_set {i : Nat} {x : Str} {pos' : Pos} (h : L2.PS X (.Assign [.Name x pos'] e pos) (tAsg (tG X.K W (Rp X.K) fe) (gName i))) : DS X W (.Assign [.Name x pos'] e pos) (xAsg fe (gN i)) := by
  refine PS.imp h ?_
  rintro E σ H h
  refine tG_imp (tS_bind (RV := Rp X.K) h) fun v H1 ⟨Z, G, ρ, d, R, r, p⟩ => ?_
  have p : PostS X.K W Z G E (some (.nx (ρ.set i (.val d)))) := p
  exact p _ _ G (.refl _) (R.setVal r)
/-- name = [..], the list the slot's own -/
def xNew (i : Nat) (f : FX (List D)) : FS := fun ρ => xbS (f ρ) fun ds ρ1 => if ds.length ≤ smallN then some (.nx (ρ1.set i (.ml ds))) else none
theorem ds_new {i : Nat} {x : Str} {pos' p2 : Pos} {es : List Expr} {fs : FX (List D)} (ha : DA X W es fs)
    (h : ∀ te, PE X (.List es p2) te → L2.PS X (.Assign [.Name x pos'] (.List es p2) pos) (tAsg te (gName i))) : DS X W (.Assign [.Name x pos'] (.List es p2) pos) (xNew i fs) := by
  refine PS.imp (h _ (pe_lst ha)) ?_
  rintro E σ H h
  refine tG_imp (tS_bind (RV := RpA X.K) h) fun v H1 ⟨Z, G, ρ, d, R, r, p⟩ => ?_
  by_cases hz : d.length ≤ smallN
  · rw [if_pos hz] at p
    exact ⟨by rw [r.length]; exact smallN_le hz, fun q hq => p _ _ G (.refl _) (R.setNew hq r)⟩
  · rw [if_neg hz] at p
    exact False.elim p
/-- x += e and its like -/
def xAug (i : Nat) (g : O2) (f : FX D) : FS := fun ρ => match ρ.env[i]? with
  | some (some (.val d)) => xbS (f ρ) fun e ρ1 => match g d e with
    | none => none
    | some z => some (.nx (ρ1.set i (.val z)))
  | _ => none
theorem ds_aug {i : Nat} {st : Stmt} {r : R2} {g : O2} (h : L2.PS X st (tAug i (tG X.K W (Rp X.K) fe) r)) (hd : DOp X.K r g) : DS X W st (xAug i g fe) := by
  refine PS.imp h ?_
  rintro E σ H ⟨Z, G, ρ, R, p⟩
  unfold xAug at p
  cases e : ρ.env[i]? with
  | none => simp only [e, PostS] at p
  | some o =>
    cases o with
    | none => simp only [e, PostS] at p
    | some sl =>
      cases sl with
      | ml ds => simp only [e, PostS] at p
      | val d =>
        simp only [e] at p
        obtain ⟨x, ex, v, e1, r1⟩ := R.en i _ e
        subst e1
        refine ⟨v, ex, ?_⟩
        refine ⟨Z, G, ρ, R, ?_⟩
        cases e2 : fe ρ with
        | none => simp only [e2, xbS, PostS] at p
        | some o =>
          cases o with
          | er x ρ1 =>
            simp only [e2, xbS, PostS] at p
            exact fun c d H1 G1 l1 R1 rv => p c d σ H1 G1 l1 R1 rv
          | ok d2 ρ1 =>
            simp only [e2, xbS] at p
            intro u H1 G1 l1 R1 r2
            cases e3 : g d d2 with
            | none => simp only [e3, PostS] at p
            | some z =>
              simp only [e3, PostS] at p
              exact hd Z G1 σ H1 ρ1 v u d d2 z _ R1 (r1.mono l1) r2 e3 fun w H2 G2 l2 R2 r3 => p _ _ G2 (l1.trans l2) (R2.setVal r3)
/-! ### two names at once -/
def xPar (i j : Nat) (f : FX (List D)) : FS := fun ρ => xbS (f ρ) fun ds ρ1 => match ds with
  | [a, b] => some (.nx ((ρ1.set i (.val a)).set j (.val b)))
  | _ => none
theorem ds_par {i j : Nat} {st : Stmt} {fs : FX (List D)} (h : L2.PS X st (tPar i j (tG X.K W (RpA X.K) fs))) : DS X W st (xPar i j fs) := by
  refine PS.imp h ?_
  rintro E σ H h
  refine tG_imp (tS_bind (RV := RpA X.K) h) fun v H1 ⟨Z, G, ρ, d, R, r, p⟩ => ?_
  cases r with
  | nil => exact False.elim p
  | cons r1 t =>
    cases t with
    | nil => exact False.elim p
    | cons r2 t =>
      cases t with
      | nil => exact ⟨_, _, rfl, p _ _ G (.refl _) ((R.setVal r1).setVal r2)⟩
      | cons r3 t => exact False.elim p
/-- .. the first one a new list of its own: a, b = [..], y -/
def xParNew (i j : Nat) (f : FX (List D)) (g : FX D) : FS := fun ρ => xbS (f ρ) fun ds ρ1 => if ds.length ≤ smallN then xbS (g ρ1) fun b ρ2 => some (.nx ((ρ2.set i (.ml ds)).set j (.val b))) else none
/-! ### while -/
def xWhileN (c : FX Bool) (b : FS) : Nat → FS
  | 0, _ => none
  | n + 1, ρ => xbS (c ρ) fun t ρ1 => if t = true then match b ρ1 with
      | some (.nx ρ2) => xWhileN c b n ρ2
      | some (.ct ρ2) => xWhileN c b n ρ2
      | some (.bk ρ2) => some (.nx ρ2)
      | r => r
    else some (.nx ρ1)
theorem xWhileN_mono {c : FX Bool} {b : FS} : ∀ {n : Nat} {ρ : PS} {r : Out}, xWhileN c b n ρ = some r → xWhileN c b (n + 1) ρ = some r := by
  intro n
  induction n with
  | zero => intro ρ r h; cases h
  | succ n ih =>
    intro ρ r h
    unfold xWhileN at h ⊢
    cases e : c ρ with
    | none => rw [e] at h; exact h
    | some o =>
      cases o with
      | er x ρ1 => rw [e] at h; exact h
      | ok t ρ1 =>
        rw [e] at h
        cases t with
        | false => exact h
        | true =>
          have h : (match b ρ1 with
            | some (.nx ρ2) => xWhileN c b n ρ2
            | some (.ct ρ2) => xWhileN c b n ρ2
            | some (.bk ρ2) => some (.nx ρ2)
            | r => r) = some r := h
          show (match b ρ1 with
            | some (.nx ρ2) => xWhileN c b (n + 1) ρ2
            | some (.ct ρ2) => xWhileN c b (n + 1) ρ2
            | some (.bk ρ2) => some (.nx ρ2)
            | r => r) = some r
          cases e2 : b ρ1 with
          | none => rw [e2] at h; exact h
          | some o =>
            rw [e2] at h
            cases o with
            | nx ρ2 => exact ih h
            | ct ρ2 => exact ih h
            | bk ρ2 => exact h
            | rt d ρ2 => exact h
            | er x ρ2 => exact h
theorem xWhileN_le {c : FX Bool} {b : FS} {n m : Nat} {ρ : PS} {r : Out} (h : xWhileN c b n ρ = some r) (l : n ≤ m) : xWhileN c b m ρ = some r := by
  induction l with
  | refl => exact h
  | step _ ih => exact xWhileN_mono ih
open Classical in
noncomputable def xWhile (c : FX Bool) (b : FS) : FS := fun ρ => if h : ∃ n r, xWhileN c b n ρ = some r then some (Classical.choose (Classical.choose_spec h)) else none
theorem xWhile_ex {c : FX Bool} {b : FS} {ρ : PS} {r : Out} (h : xWhile c b ρ = some r) : ∃ n, xWhileN c b n ρ = some r := by
  unfold xWhile at h
  split at h
  · rename_i q
    have e := Classical.choose_spec (Classical.choose_spec q)
    cases h
    exact ⟨_, e⟩
  · cases h
theorem xWhile_of {c : FX Bool} {b : FS} {n : Nat} {ρ : PS} {r : Out} (h : xWhileN c b n ρ = some r) : xWhile c b ρ = some r := by
  unfold xWhile
  have q : ∃ n r, xWhileN c b n ρ = some r := ⟨n, r, h⟩
  rw [dif_pos q]
  have e := Classical.choose_spec (Classical.choose_spec q)
  have e1 := xWhileN_le e (Nat.le_max_left _ n)
  have e2 := xWhileN_le h (Nat.le_max_right (Classical.choose q) n)
  rw [e1] at e2
  exact e2
theorem ds_while {c : Expr} {fc : FX Bool} {body : List Stmt} (hp : PassesOwn (model X.prog X.w) X.A X.env X.xe) (hc : DT X W c fc) (hb : DSs X W body f) : DS X W (.While c body [] pos) (xWhile fc f) := by
  refine PS.imp (ps_while hp hc hb) ?_
  rintro E σ H ⟨Z, G, ρ, R, p⟩
  cases e : xWhile fc f ρ with
  | none => rw [e] at p; exact False.elim p
  | some out =>
    rw [e] at p
    obtain ⟨n, en⟩ := xWhile_ex e
    refine ⟨fun m σ H => ∃ G' ρ, G.Le G' ∧ Rel X.K Z G' σ H ρ ∧ xWhileN fc f m ρ = some out, ⟨n, G, ρ, .refl _, R, en⟩, ?_⟩
    rintro m σ1 H1 ⟨G1, ρ1, l1, R1, e1⟩
    cases m with
    | zero => cases e1
    | succ m =>
      unfold xWhileN at e1
      refine ⟨Z, G1, ρ1, R1, ?_⟩
      cases e2 : fc ρ1 with
      | none => rw [e2] at e1; cases e1
      | some o =>
        rw [e2] at e1
        cases o with
        | er x ρ2 =>
          cases e1
          exact fun c d H2 G2 l2 R2 rv => p c d σ1 H2 G2 (l1.trans l2) R2 rv
        | ok t ρ2 =>
          intro b H2 G2 l2 R2 rb
          have rb : b = t := rb
          subst rb
          cases b with
          | false =>
            have e1 : some (Out.nx ρ2) = some out := e1
            cases e1
            rw [if_neg Bool.false_ne_true]
            exact p _ _ G2 (l1.trans l2) R2
          | true =>
            have e1 : (match f ρ2 with
              | some (.nx ρ2) => xWhileN fc f m ρ2
              | some (.ct ρ2) => xWhileN fc f m ρ2
              | some (.bk ρ2) => some (.nx ρ2)
              | r => r) = some out := e1
            rw [if_pos rfl]
            refine ⟨fun σ' H' => ∃ G' ρ, G.Le G' ∧ Rel X.K Z G' σ' H' ρ ∧ xWhileN fc f m ρ = some out, fun σ' H' h => ⟨m, Nat.lt_succ_self m, h⟩, Z, G2, ρ2, R2, ?_⟩
            cases e3 : f ρ2 with
            | none => rw [e3] at e1; cases e1
            | some o =>
              rw [e3] at e1
              cases o with
              | nx ρ3 => exact fun σ' H' G3 l3 R3 => ⟨G3, ρ3, (l1.trans l2).trans l3, R3, e1⟩
              | ct ρ3 => exact fun σ' H' G3 l3 R3 => ⟨G3, ρ3, (l1.trans l2).trans l3, R3, e1⟩
              | bk ρ3 =>
                cases e1
                exact fun σ' H' G3 l3 R3 => p _ _ G3 ((l1.trans l2).trans l3) R3
              | rt d ρ3 =>
                cases e1
                exact fun v σ' H' G3 l3 R3 r => p v σ' H' G3 ((l1.trans l2).trans l3) R3 r
              | er x ρ3 =>
                cases e1
                exact fun c d σ' H' G3 l3 R3 r => p c d σ' H' G3 ((l1.trans l2).trans l3) R3 r
/-! ### for -/
/-- an iterator gives these data, one by one -/
def Gives (K : PySem.W.Frag) (G : Gh) (J : It) (ds : List D) : Prop := ∀ (G' : Gh) (Z : Hp) (σ : L2.St) (H : Hp) (ρ : PS), G.Le G' → Rel K Z G' σ H ρ → ∀ i : Nat,
  (ds.length ≤ i → J.stop i H) ∧ ∀ d, ds[i]? = some d → J.go i H ∧ ∀ x H', J.yld i H x H' → ∃ G'', G'.Le G'' ∧ Rel K Z G'' σ H' ρ ∧ Rp K G'' x d
theorem Gives.mono {K : PySem.W.Frag} {G G' : Gh} {J : It} {ds : List D} (l : G.Le G') (g : Gives K G J ds) : Gives K G' J ds := fun G2 Z σ H ρ l2 R => g G2 Z σ H ρ (l.trans l2) R
abbrev DI (X : Cx) (W : WX) (tg iter : Expr) (f : FX (List D)) : Prop := PI X tg iter (tG X.K W (Gives X.K) f)
def xForL (g : FG) (b : FS) : List D → FS
  | [], ρ => some (.nx ρ)
  | d :: ds, ρ => match g d ρ with
    | none => none
    | some ρ1 => match b ρ1 with
      | some (.nx ρ2) => xForL g b ds ρ2
      | some (.ct ρ2) => xForL g b ds ρ2
      | some (.bk ρ2) => some (.nx ρ2)
      | r => r
def xFor (fi : FX (List D)) (g : FG) (b : FS) : FS := fun ρ => xbS (fi ρ) fun ds ρ1 => xForL g b ds ρ1
theorem ds_for {tg iter : Expr} {fi : FX (List D)} {fg : FG} {body : List Stmt} (hp : PassesOwn (model X.prog X.w) X.A X.env X.xe) (hc : X.calm = true) (hi : DI X W tg iter fi) (hg : DG X tg fg) (hb : DSs X W body f)
    (hs : ∀ x, foldedSetIterable iter X.env x = pure x := by intro _; rfl) : DS X W (.For tg iter body [] pos) (xFor fi fg f) := by
  refine PS.imp (ps_for hp hc hi hg hb hs) ?_
  rintro E σ H h
  refine tG_imp (tS_bind (RV := Gives X.K) h) fun J H1 ⟨Z, G, ρ, ds, R, gv, p⟩ => ?_
  cases e : xForL fg f ds ρ with
  | none => rw [e] at p; exact False.elim p
  | some out =>
    rw [e] at p
    refine ⟨fun i m σ H => m = ds.length - i ∧ i ≤ ds.length ∧ ∃ G' ρ, G.Le G' ∧ Rel X.K Z G' σ H ρ ∧ xForL fg f (ds.drop i) ρ = some out, ⟨ds.length, by simp, Nat.zero_le _, G, ρ, .refl _, R, e⟩, ?_⟩
    rintro i m σ1 H1 ⟨rfl, hi, G1, ρ1, l1, R1, e1⟩
    obtain ⟨g1, g2⟩ := gv G1 Z σ1 H1 ρ1 l1 R1 i
    by_cases hlt : i < ds.length
    · obtain ⟨go, yl⟩ := g2 ds[i] (List.getElem?_eq_getElem hlt)
      rw [List.drop_eq_getElem_cons hlt] at e1
      unfold xForL at e1
      refine .inr ⟨go, fun σ' H' => ∃ G' ρ, G.Le G' ∧ Rel X.K Z G' σ' H' ρ ∧ xForL fg f (ds.drop (i + 1)) ρ = some out, fun σ' H' h => ⟨ds.length - (i + 1), by omega, rfl, hlt, h⟩, fun x H2 y => ?_⟩
      obtain ⟨G2, l2, R2, r2⟩ := yl x H2 y
      refine ⟨Z, G2, ρ1, ds[i], R2, r2, ?_⟩
      cases e2 : fg ds[i] ρ1 with
      | none => simp only [e2] at e1; cases e1
      | some ρ2 =>
        simp only [e2] at e1
        intro σ3 H3 G3 l3 R3
        refine ⟨Z, G3, ρ2, R3, ?_⟩
        have l := (l1.trans l2).trans l3
        cases e3 : f ρ2 with
        | none => rw [e3] at e1; cases e1
        | some o =>
          rw [e3] at e1
          cases o with
          | nx ρ3 => exact fun σ' H' G4 l4 R4 => ⟨G4, ρ3, l.trans l4, R4, e1⟩
          | ct ρ3 => exact fun σ' H' G4 l4 R4 => ⟨G4, ρ3, l.trans l4, R4, e1⟩
          | bk ρ3 =>
            cases e1
            exact fun σ' H' G4 l4 R4 => p _ _ G4 (l.trans l4) R4
          | rt d ρ3 =>
            cases e1
            exact fun v σ' H' G4 l4 R4 r => p v σ' H' G4 (l.trans l4) R4 r
          | er x ρ3 =>
            cases e1
            exact fun c d σ' H' G4 l4 R4 r => p c d σ' H' G4 (l.trans l4) R4 r
    · have hd : ds.drop i = [] := List.drop_eq_nil_iff.mpr (by omega)
      rw [hd] at e1
      unfold xForL at e1
      cases e1
      exact .inl ⟨g1 (by omega), p _ _ G1 l1 R1⟩
/-! ### what is walked -/
def xSeqOf (f : FX D) : FX (List D) := fun ρ => xb (f ρ) fun d ρ1 => match d with
  | .lst ds => some (.ok ds ρ1)
  | _ => none
def xTupOf (f : FX D) : FX (List D) := fun ρ => xb (f ρ) fun d ρ1 => match d with
  | .tup ds => some (.ok ds ρ1)
  | _ => none
theorem gives_list {K : PySem.W.Frag} {G : Gh} {a : Addr} {xs : List V} {ds : List D} (s : G.F a = some (.lst xs)) (r : RpA K G xs ds) : Gives K G (Itl K a) ds := by
  intro G' Z σ H ρ l R i
  have s' : SqL K H a xs := .inl (.inl (R.fz _ _ (l.f _ _ s)))
  refine ⟨fun hi => ⟨xs, s', by rw [r.length]; exact hi⟩, fun d hd => ?_⟩
  obtain ⟨v, hv, rv⟩ := r.get hd
  refine ⟨⟨xs, v, s', hv⟩, fun x H' ⟨e, y⟩ => ?_⟩
  subst e
  have := y xs s'
  rw [hv] at this
  cases this
  exact ⟨G', .refl _, R, rv.mono l⟩
theorem gives_tup {K : PySem.W.Frag} {G : Gh} {a : Addr} {xs : List V} {ds : List D} (s : SqT K G.F a xs) (r : RpA K G xs ds) : Gives K G (Itt K a) ds := by
  intro G' Z σ H ρ l R i
  have s' : SqT K H a xs := sqT_mono (fun b o e => R.fz b o (l.f b o e)) s
  refine ⟨fun hi => ⟨xs, s', by rw [r.length]; exact hi⟩, fun d hd => ?_⟩
  obtain ⟨v, hv, rv⟩ := r.get hd
  refine ⟨⟨xs, v, s', hv⟩, fun x H' ⟨e, y⟩ => ?_⟩
  subst e
  have := y xs s'
  rw [hv] at this
  cases this
  exact ⟨G', .refl _, R, rv.mono l⟩
theorem di_list {tg l : Expr} {fl : FX D} (hl : DE X W l fl) : DI X W tg l (xSeqOf fl) := by
  refine PI.imp (pi_list hl) ?_
  rintro σ H Q h
  refine tG_imp (tG_bind (RVa := Rp X.K) h) fun v H1 ⟨Z, G, ρ, d, R, r, p⟩ => ?_
  cases r with
  | @lst a xs ds s t => exact ⟨a, rfl, ⟨xs, .inl (.inl (R.fz _ _ s))⟩, p.ok (.refl _) R (gives_list s t)⟩
  | _ => exact False.elim p
theorem di_tup {tg l : Expr} {fl : FX D} (hl : DE X W l fl) : DI X W tg l (xTupOf fl) := by
  refine PI.imp (pi_tup hl) ?_
  rintro σ H Q h
  refine tG_imp (tG_bind (RVa := Rp X.K) h) fun v H1 ⟨Z, G, ρ, d, R, r, p⟩ => ?_
  cases r with
  | @tup a xs ds s t => exact ⟨a, rfl, ⟨xs, sqT_mono R.fz s⟩, p.ok (.refl _) R (gives_tup s t)⟩
  | _ => exact False.elim p
def rangeL (lo : Int) (n : Nat) : List D := (List.range n).map fun (i : Nat) => D.int (lo + i)
theorem gives_range {K : PySem.W.Frag} {G : Gh} {lo : Int} {n : Nat} : Gives K G (Itr lo n) (rangeL lo n) := by
  intro G' Z σ H ρ l R i
  unfold rangeL
  rw [List.length_map, List.length_range]
  refine ⟨fun hi => hi, fun d hd => ?_⟩
  rw [List.getElem?_map] at hd
  by_cases hi : i < n
  · rw [List.getElem?_range hi] at hd
    cases hd
    refine ⟨hi, fun x H' ⟨e, y⟩ => ?_⟩
    subst e y
    exact ⟨G', .refl _, R, .int _⟩
  · rw [List.getElem?_eq_none (by rw [List.length_range]; omega)] at hd
    cases hd
def big62 : Int := 2 ^ 62
def xRange1 (f : FX (List D)) : FX (List D) := fun ρ => xb (f ρ) fun ds ρ1 => match ds with
  | [.int j] => if -(2 ^ 62) ≤ j ∧ j < 2 ^ 62 then some (.ok (rangeL 0 j.toNat) ρ1) else none
  | _ => none
def xRange2 (f : FX (List D)) : FX (List D) := fun ρ => xb (f ρ) fun ds ρ1 => match ds with
  | [.int i, .int j] => if -(2 ^ 62) ≤ i ∧ i < 2 ^ 62 ∧ -(2 ^ 62) ≤ j ∧ j < 2 ^ 62 then some (.ok (rangeL i (j - i).toNat) ρ1) else none
  | _ => none
theorem di_range1 {tg a : Expr} {fs : FX (List D)} {p p' : Pos} (hg : Gl X "range") (hm : X.mg "range" = none) (ha : DA X W [a] fs) (hs : starEach [a] X.env = [(false, eval a X.env)] := by rfl) : DI X W tg (.Call (.Name "range" p) [a] [] p') (xRange1 fs) := by
  refine PI.imp (pi_range1 hg hm ha hs) ?_
  rintro σ H Q h
  refine tG_imp (tG_bind (RVa := RpA X.K) h) fun v H1 ⟨Z, G, ρ, d, R, r, p⟩ => ?_
  cases r with
  | nil => exact False.elim p
  | cons r t =>
    cases t with
    | cons _ _ => cases r <;> exact False.elim p
    | nil =>
      cases r with
      | int j =>
        have p : Post X.K W Z σ (Gives X.K) G Q (if -(2 ^ 62) ≤ j ∧ j < 2 ^ 62 then some (.ok (rangeL 0 j.toNat) ρ) else none) := p
        by_cases hz : -(2 ^ 62) ≤ j ∧ j < 2 ^ 62
        · rw [if_pos hz] at p
          exact ⟨j, rfl, hz.1, hz.2, p.ok (.refl _) R gives_range⟩
        · rw [if_neg hz] at p
          exact False.elim p
      | _ => exact False.elim p
theorem di_range2 {tg a b : Expr} {fs : FX (List D)} {p p' : Pos} (hg : Gl X "range") (hm : X.mg "range" = none) (ha : DA X W [a, b] fs) (hs : starEach [a, b] X.env = [(false, eval a X.env), (false, eval b X.env)] := by rfl) (hs2 : starEach [b] X.env = [(false, eval b X.env)] := by rfl) :
    DI X W tg (.Call (.Name "range" p) [a, b] [] p') (xRange2 fs) := by
  refine PI.imp (pi_range2 hg hm ha hs hs2) ?_
  rintro σ H Q h
  refine tG_imp (tG_bind (RVa := RpA X.K) h) fun v H1 ⟨Z, G, ρ, d, R, r, p⟩ => ?_
  cases r with
  | nil => exact False.elim p
  | cons r t =>
    cases t with
    | nil => cases r <;> exact False.elim p
    | cons r2 t =>
      cases t with
      | cons _ _ => cases r <;> cases r2 <;> exact False.elim p
      | nil =>
        cases r with
        | int i =>
          cases r2 with
          | int j =>
            have p : Post X.K W Z σ (Gives X.K) G Q (if -(2 ^ 62) ≤ i ∧ i < 2 ^ 62 ∧ -(2 ^ 62) ≤ j ∧ j < 2 ^ 62 then some (.ok (rangeL i (j - i).toNat) ρ) else none) := p
            by_cases hz : -(2 ^ 62) ≤ i ∧ i < 2 ^ 62 ∧ -(2 ^ 62) ≤ j ∧ j < 2 ^ 62
            · rw [if_pos hz] at p
              exact ⟨i, j, rfl, hz, p.ok (.refl _) R gives_range⟩
            · rw [if_neg hz] at p
              exact False.elim p
          | _ => exact False.elim p
        | _ => cases r2 <;> exact False.elim p
end
end PL
/-! PL4: defs and their calls, operators, lists. -/
namespace PL
open PySem PySem.Spec PyProof.Rows L2

/-! ### defs -/
inductive RD where
  | ok (d : D) (s : Option Src)
  | er (e : Ex) (s : Option Src)
abbrev DFun := List D → Option Src → Option RD
def PostF (K : PySem.W.Frag) (Z : Hp) (G : Gh) (Q : VK) (E : XK) : Option RD → Prop
  | none => False
  | some (.ok d s') => ∀ v H' G', G.Le G' → Base K Z G' H' s' → Rp K G' v d → Q v H'
  | some (.er e s') => ∀ cls dd H' G', G.Le G' → Base K Z G' H' s' → RpX K G' H' e cls dd → E cls dd H'
def spD (K : PySem.W.Frag) (n : Nat) (F : DFun) : Sp := fun vs H Q E => vs.length = n ∧ ∃ Z G ds s, Base K Z G H s ∧ RpA K G vs ds ∧ PostF K Z G Q E (F ds s)
def stEnv (n : Nat) (ds : List D) : List (Option Sl) := ds.map (fun d => some (.val d)) ++ List.replicate (n - ds.length) none
def endF : Option Out → Option RD
  | some (.nx ρ) => some (.ok .non ρ.src)
  | some (.rt d ρ) => some (.ok d ρ.src)
  | some (.er e ρ) => some (.er e ρ.src)
  | _ => none
def runF (n : Nat) (b : FS) : DFun := fun ds s => endF (b ⟨stEnv n ds, s⟩)
theorem Rel.base {K : PySem.W.Frag} {Z : Hp} {G : Gh} {σ : L2.St} {H : Hp} {ρ : PS} (r : Rel K Z G σ H ρ) : Base K Z G H ρ.src := Base.mk r.fz r.zz r.sr
theorem stEnv_get {n : Nat} {ds : List D} {i : Nat} {sl : Sl} (h : (stEnv n ds)[i]? = some (some sl)) : ∃ d, ds[i]? = some d ∧ sl = .val d := by
  unfold stEnv at h
  by_cases hi : i < ds.length
  · rw [List.getElem?_append_left (by simpa using hi), List.getElem?_map, List.getElem?_eq_getElem hi] at h
    cases h
    exact ⟨_, List.getElem?_eq_getElem hi, rfl⟩
  · rw [List.getElem?_append_right (by simpa using hi), List.getElem?_replicate] at h
    split at h <;> cases h
theorem Rel.start {K : PySem.W.Frag} {Z : Hp} {G : Gh} {H : Hp} {s : Option Src} {N : List Str} {vs : List V} {ds : List D} (b : Base K Z G H s) (r : RpA K G vs ds) (hl : vs.length ≤ N.length) : Rel K Z G (L2.start N vs) H ⟨stEnv N.length ds, s⟩ := by
  have no : ∀ {i a}, Own (L2.start N vs) ⟨stEnv N.length ds, s⟩ i a → False := fun {i a} ⟨⟨sl, e, m⟩, _⟩ => by
    obtain ⟨d, _, rfl⟩ := stEnv_get e
    cases m
  refine ⟨?_, b.fz, b.zz, b.sr, fun i sl e => ?_, fun _ _ _ h => (no h).elim, fun _ _ h => (no h).elim, fun _ _ _ _ h => (no h).elim⟩
  · show (L2.start N vs).length = (stEnv N.length ds).length
    unfold L2.start stEnv
    simp [r.length]
  · obtain ⟨d, hd, rfl⟩ := stEnv_get e
    obtain ⟨v, hv, rv⟩ := r.get hd
    refine ⟨some v, ?_, v, rfl, rv⟩
    unfold L2.start
    have hi : i < vs.length := (List.getElem?_eq_some_iff.mp hv).1
    rw [List.getElem?_append_left (by simpa using hi), List.getElem?_map, hv]
    rfl
abbrev WF (E : XK) : WX := fun cls d _ H => E cls d H
theorem fn_ok {P : Program} {w : World} {K : PySem.W.Frag} {mg : Str → Option Value} {base : Heap} {x qual : Str} {params : Arguments} {body : List Stmt} {scope : Scope} {f : Addr} {fd : FuncData} {N ps : List Str} {k : Nat} {b : FS}
    (F : FunD K x qual params body scope [] [] f fd) (S : FnScope N ps scope)
    (hb : ∀ (cdv : Value) (A : Around) (outer : List Env) (s : Shared) (H : Hp) (E : XK), Room k (A.deeper (envOfC qual scope s.heap.objs.size f cdv)) →
      DSs (cxOf (L2.CX P w) P w K mg base N qual scope f cdv A outer s H E) (WF E) body b) : FnOk P w K mg base (L2.CX P w) (k + 1) f fd ps (spD K ps.length (runF N.length b)) := by
  refine F.ok S (fun vs H Q E h => h.1) (fun cdv A outer s H vs Q E hr h => ⟨_, hb cdv A outer s H E hr, ?_⟩)
  obtain ⟨hl, Z, G, ds, sr, B, r, p⟩ := h
  have hN : ps.length ≤ N.length := by have := congrArg List.length S.pre; rw [List.length_take] at this; omega
  refine ⟨Z, G, ⟨stEnv N.length ds, sr⟩, B.start r (by omega), ?_⟩
  unfold runF at p
  cases e : b ⟨stEnv N.length ds, sr⟩ with
  | none => rw [e] at p; exact False.elim p
  | some o =>
    rw [e] at p
    cases o with
    | nx ρ => exact fun σ' H' G' l R => p _ _ G' l R.base .non
    | rt d ρ => exact fun v σ' H' G' l R r => p _ _ G' l R.base r
    | er x ρ => exact fun c dd σ' H' G' l R r => p c dd _ G' l R.base r
    | bk ρ => exact False.elim p
    | ct ρ => exact False.elim p
/-- a def that may be called by its name -/
structure Callee (P : Program) (w : World) (K : PySem.W.Frag) (mg : Str → Option Value) (base : Heap) (k : Nat) (x : Str) (n : Nat) (F : DFun) : Prop where
  ex : ∃ (f : Addr) (fd : FuncData) (ps : List Str), FnOk P w K mg base (L2.CX P w) k f fd ps (spD K n F) ∧ mg x = some (.ref f) ∧ PySem.W.keepIn K (.ref f) = true ∧ Binds K fd ps []
theorem Callee.mono {P : Program} {w : World} {K : PySem.W.Frag} {mg : Str → Option Value} {base : Heap} {j k : Nat} {x : Str} {n : Nat} {F : DFun} (c : Callee P w K mg base j x n F) (h : j ≤ k) : Callee P w K mg base k x n F :=
  ⟨let ⟨f, fd, ps, a, b⟩ := c.ex; ⟨f, fd, ps, a.mono h, b⟩⟩
/-- a clean function in its place -/
theorem Callee.imp {P : Program} {w : World} {K : PySem.W.Frag} {mg : Str → Option Value} {base : Heap} {k : Nat} {x : Str} {n : Nat} {F F' : DFun} (c : Callee P w K mg base k x n F) (h : ∀ ds s r, F' ds s = some r → F ds s = some r) : Callee P w K mg base k x n F' := by
  obtain ⟨f, fd, ps, a, b⟩ := c.ex
  refine ⟨f, fd, ps, a.imp fun vs H Q E ⟨hl, Z, G, ds, s, B, r, p⟩ => ⟨hl, Z, G, ds, s, B, r, ?_⟩, b⟩
  cases e : F' ds s with
  | none => rw [e] at p; exact False.elim p
  | some o => rw [h _ _ _ e]; rw [e] at p; exact p
def xCall (n : Nat) (F : DFun) (f : FX (List D)) : FX D := fun ρ => xb (f ρ) fun ds ρ1 => if ds.length = n then match F ds ρ1.src with
    | none => none
    | some (.ok d s) => some (.ok d ⟨ρ1.env, s⟩)
    | some (.er e s) => some (.er e ⟨ρ1.env, s⟩)
  else none
section
variable {X : Cx} {W : WX} {k j n : Nat} {F : DFun} {x : Str} {p pos : Pos} {e : Expr} {es : List Expr} {fs : FX (List D)}
theorem call_post {Z : Hp} {G : Gh} {σ : L2.St} {H : Hp} {ρ : PS} {Q : VK} {vs : List V} {ds : List D} (R : Rel X.K Z G σ H ρ) (r : RpA X.K G vs ds) (q : Post X.K W Z σ (Rp X.K) G Q (if ds.length = n then match F ds ρ.src with
    | none => none
    | some (.ok d s) => some (.ok d ⟨ρ.env, s⟩)
    | some (.er e s) => some (.er e ⟨ρ.env, s⟩)
  else none)) : spD X.K n F (vs ++ []) H Q (WE W σ) := by
  rw [List.append_nil]
  by_cases hn : ds.length = n
  · rw [if_pos hn] at q
    refine ⟨by rw [r.length]; exact hn, zone Z σ H ρ, G, ds, ρ.src, R.down, r, ?_⟩
    cases e : F ds ρ.src with
    | none => rw [e] at q; exact False.elim q
    | some o =>
      rw [e] at q
      cases o with
      | ok d s => exact fun v H' G' l B rv => q v H' G' l (R.up l B) rv
      | er x s => exact fun c dd H' G' l B rv => q c dd H' G' l (R.up l B) rv
  · rw [if_neg hn] at q
    exact False.elim q
theorem de_call (C : Callee X.prog X.w X.K X.mg X.base j x n F) (hr : Room k X.A) (hj : j ≤ k) (tk : Takes X W) (hg : Gl X x) (ha : DA X W (e :: es) fs) (hdb : (x == ("__debug__" : Str)) = false := by decide)
    (he : starEach (e :: es) X.env = (false, eval e X.env) :: starEach es X.env := by rfl) (hpl : (backTo pos (starEach es X.env)).any (·.1) = false := by rfl) : DE X W (.Call (.Name x p) (e :: es) [] pos) (xCall n F fs) := by
  obtain ⟨f, fd, ps, Fk, hm, hk, hb⟩ := C.ex
  refine PE.imp (pe_callSD Fk (hr.mono hj) hg hm hk hb .nil (fun σ => passAt tk σ) ha hdb he hpl) ?_
  rintro σ H Q h
  refine tG_imp (tG_bind (RVa := RpA X.K) h) fun vs H1 ⟨Z, G, ρ, ds, R, r, q⟩ => ?_
  exact call_post R r q
end
/-! ### operators -/
theorem OpR.or {X : Cx} {f : Value → Value → Sem Value} {r r' : R2} (h : OpR X f r) (h' : OpR X f r') : OpR X f (fun x y H Q => r x y H Q ∨ r' x y H Q) := fun pins s σ H x y v u Q I rx ry q =>
  q.elim (fun q => h pins s σ H x y v u Q I rx ry q) (fun q => h' pins s σ H x y v u Q I rx ry q)
theorem CallR.or {X : Cx} {f : Value} {r r' : List V → Hp → VK → Prop} (h : CallR X f r) (h' : CallR X f r') : CallR X f (fun xs H Q => r xs H Q ∨ r' xs H Q) := fun pins s σ H xs us Q I rx q =>
  q.elim (fun q => h pins s σ H xs us Q I rx q) (fun q => h' pins s σ H xs us Q I rx q)
theorem DOp.or {K : PySem.W.Frag} {r r' : R2} {g : O2} (h : ∀ Z G σ H ρ x y dx dy dz Q, Rel K Z G σ H ρ → Rp K G x dx → Rp K G y dy → g dx dy = some dz → (∀ v H' G', G.Le G' → Rel K Z G' σ H' ρ → Rp K G' v dz → Q v H') → r x y H Q ∨ r' x y H Q) : DOp K (fun x y H Q => r x y H Q ∨ r' x y H Q) g := h
theorem sOk_append {x y : Str} (h : sOk x = true) (h' : sOk y = true) : sOk (x ++ y) = true := by
  have e : (x ++ y).cps = x.cps ++ y.cps := rfl
  unfold sOk PySem.PyData.strOk at *
  rw [e, Array.all_append, h, h']
  rfl
/-- + of ints, texts, lists, tuples -/
def gAdd : O2
  | .int i, .int j => some (.int (i + j))
  | .str x, .str y => if x.length + y.length ≤ smallN then some (.str (x ++ y)) else none
  | .lst xs, .lst ys => if xs.length + ys.length ≤ smallN then some (.lst (xs ++ ys)) else none
  | .tup xs, .tup ys => if xs.length + ys.length ≤ smallN then some (.tup (xs ++ ys)) else none
  | _, _ => none
theorem d_add {K : PySem.W.Frag} : DOp K (fun x y H Q => (rI0 fun i j => .int (i + j)) x y H Q ∨ (∃ i j, x = .str i ∧ y = .str j ∧ i.length + j.length ≤ sizeLine ∧ Q (.str (i ++ j)) H) ∨ rCat x y H Q ∨ rCatA K x y H Q) gAdd := by
  intro Z G σ H ρ x y dx dy dz Q R rx ry e q
  unfold gAdd at e
  split at e
  · cases rx; cases ry; cases e
    exact .inl ⟨_, _, rfl, rfl, q _ _ G (.refl _) R (.int _)⟩
  · split at e
    · rename_i hz
      cases rx with
      | str x h =>
        cases ry with
        | str y h' =>
          cases e
          exact .inr (.inl ⟨_, _, rfl, rfl, smallN_le hz, q _ _ G (.refl _) R (.str _ (sOk_append h h'))⟩)
    · cases e
  · split at e
    · rename_i hz
      cases rx with
      | lst s t =>
        cases ry with
        | lst s' t' =>
          cases e
          exact .inr (.inr (.inl ⟨_, _, _, _, rfl, rfl, R.fz _ _ s, R.fz _ _ s', by rw [t.length, t'.length]; exact smallN_le hz, mk_lst R (t.append t') q⟩))
    · cases e
  · split at e
    · rename_i hz
      cases rx with
      | @tup a xs ds s t =>
        cases ry with
        | @tup a' xs' ds' s' t' =>
          cases e
          refine .inr (.inr (.inr ⟨_, _, _, _, rfl, rfl, sqT_mono R.fz s, sqT_mono R.fz s', by rw [t.length, t'.length]; exact smallN_le hz, fun e0 => ?_, fun _ e0 => ?_, fun _ _ => mk_tup R (t.append t') q⟩))
          · subst e0
            cases t
            exact q _ _ G (.refl _) R (.tup s' t')
          · subst e0
            cases t'
            rw [List.append_nil] at q
            exact q _ _ G (.refl _) R (.tup s t)
    · cases e
  · cases e
theorem o_add {X : Cx} : OpR X (binaryOp .Add) (fun x y H Q => (rI0 fun i j => .int (i + j)) x y H Q ∨ (∃ i j, x = .str i ∧ y = .str j ∧ i.length + j.length ≤ sizeLine ∧ Q (.str (i ++ j)) H) ∨ rCat x y H Q ∨ rCatA X.K x y H Q) :=
  op_add.or (op_add_str.or (op_cat.or op_catA))
/-- the ints' operators -/
def gI (g : Int → Int → D) : O2
  | .int i, .int j => some (g i j)
  | _, _ => none
def gIc (c : Int → Int → Prop) [∀ i j, Decidable (c i j)] (g : Int → Int → D) : O2
  | .int i, .int j => if c i j then some (g i j) else none
  | _, _ => none
theorem d_I {K : PySem.W.Frag} {g : Int → Int → V} {g' : Int → Int → D} (h : ∀ (G : Gh) i j, Rp K G (g i j) (g' i j)) : DOp K (rI0 g) (gI g') := by
  intro Z G σ H ρ x y dx dy dz Q R rx ry e q
  unfold gI at e
  split at e
  · cases rx; cases ry; cases e
    exact ⟨_, _, rfl, rfl, q _ _ G (.refl _) R (h G _ _)⟩
  · cases e
theorem d_Ic {K : PySem.W.Frag} {C : Int → Int → Prop} {c : Int → Int → Prop} [∀ i j, Decidable (c i j)] {g : Int → Int → V} {g' : Int → Int → D} (hc : ∀ i j, c i j → C i j) (h : ∀ (G : Gh) i j, c i j → Rp K G (g i j) (g' i j)) : DOp K (rI C g) (gIc c g') := by
  intro Z G σ H ρ x y dx dy dz Q R rx ry e q
  unfold gIc at e
  split at e
  · split at e
    · rename_i hh
      cases rx; cases ry; cases e
      exact ⟨_, _, rfl, rfl, hc _ _ hh, q _ _ G (.refl _) R (h G _ _ hh)⟩
    · cases e
  · cases e
abbrev gSub : O2 := gI fun i j => .int (i - j)
theorem d_sub {K : PySem.W.Frag} : DOp K (rI0 fun i j => .int (i - j)) gSub := d_I fun _ _ _ => .int _
/-- small enough to be multiplied -/
def mulOk (i j : Int) : Prop := (-(2 ^ 64) < i ∧ i < 2 ^ 64) ∨ (-(2 ^ 64) < j ∧ j < 2 ^ 64) ∨ i.natAbs.log2 + j.natAbs.log2 < 1000000
noncomputable instance (i j : Int) : Decidable (mulOk i j) := Classical.propDecidable _
def divOk (_ j : Int) : Prop := 0 < j ∧ j.natAbs.log2 < 9000
noncomputable instance (i j : Int) : Decidable (divOk i j) := Classical.propDecidable _
def powOk (i j : Int) : Prop := 0 ≤ j ∧ j ≤ 100000 ∧ -(2 ^ 64) < i ∧ i < 2 ^ 64
noncomputable instance (i j : Int) : Decidable (powOk i j) := Classical.propDecidable _
theorem op_mulA {X : Cx} : OpR X (binaryOp .Mult) (rI mulOk fun i j => .int (i * j)) := by
  intro pins s σ H x y v u Q I rx ry h
  obtain ⟨i, j, e1, e2, c, q⟩ := h
  rcases c with c | c | c
  · exact op_mul pins s σ H x y v u Q I rx ry ⟨i, j, e1, e2, .inl c, q⟩
  · exact op_mul pins s σ H x y v u Q I rx ry ⟨i, j, e1, e2, .inr c, q⟩
  · exact op_mulW pins s σ H x y v u Q I rx ry ⟨i, j, e1, e2, c, q⟩
/-- a text so often -/
def rMulS : R2 := fun x y H Q => ∃ z n, x = .str z ∧ y = .int n ∧ 0 ≤ n ∧ n ≤ 100000 ∧ z.length * n.toNat ≤ smallN ∧ Q (.str (PySem.Txt.mul z n)) H
noncomputable def gMul : O2
  | .int i, .int j => if mulOk i j then some (.int (i * j)) else none
  | _, _ => none
theorem d_mul {K : PySem.W.Frag} : DOp K (rI mulOk fun i j => .int (i * j)) gMul := by
  intro Z G σ H ρ x y dx dy dz Q R rx ry e q
  unfold gMul at e
  split at e
  · split at e
    · rename_i hh
      cases rx; cases ry; cases e
      exact ⟨_, _, rfl, rfl, hh, q _ _ G (.refl _) R (.int _)⟩
    · cases e
  · cases e
noncomputable abbrev gDiv : O2 := gIc divOk fun i j => .int (i / j)
theorem d_div {K : PySem.W.Frag} : DOp K (rI CDivW fun i j => .int (i / j)) gDiv := d_Ic (fun _ _ h => h) fun _ _ _ _ => .int _
abbrev gMod : O2 := gIc (fun _ j => 0 < j) fun i j => .int (i % j)
theorem d_mod {K : PySem.W.Frag} : DOp K (rI (fun _ j => 0 < j) fun i j => .int (i % j)) gMod := d_Ic (fun _ _ h => h) fun _ _ _ _ => .int _
noncomputable abbrev gPow : O2 := gIc powOk fun i j => .int (i ^ j.toNat)
theorem d_pow {K : PySem.W.Frag} : DOp K (rI CPow fun i j => .int (i ^ j.toNat)) gPow := d_Ic (fun i j h => ⟨h.1, by have := h.2.1; omega, by have h1 := h.2.2.1; have h2 := h.2.2.2; omega⟩) fun _ _ _ _ => .int _
abbrev gLt : O2 := gI fun i j => .bl (decide (i < j))
abbrev gLe : O2 := gI fun i j => .bl (decide (i ≤ j))
abbrev gGt : O2 := gI fun i j => .bl (decide (j < i))
abbrev gGe : O2 := gI fun i j => .bl (decide (j ≤ i))
theorem d_lt {K : PySem.W.Frag} : DOp K (rI0 fun i j => .bl (decide (i < j))) gLt := d_I fun _ _ _ => .bl _
theorem d_le {K : PySem.W.Frag} : DOp K (rI0 fun i j => .bl (decide (i ≤ j))) gLe := d_I fun _ _ _ => .bl _
theorem d_gt {K : PySem.W.Frag} : DOp K (rI0 fun i j => .bl (decide (j < i))) gGt := d_I fun _ _ _ => .bl _
theorem d_ge {K : PySem.W.Frag} : DOp K (rI0 fun i j => .bl (decide (j ≤ i))) gGe := d_I fun _ _ _ => .bl _
def gNeg : O1
  | .int i => some (.int (-i))
  | _ => none
theorem d_neg {K : PySem.W.Frag} : DUn K (rU fun i => .int (-i)) gNeg := by
  intro Z G σ H ρ x dx dz Q R rx e q
  unfold gNeg at e
  split at e
  · cases rx; cases e
    exact ⟨_, rfl, q _ _ G (.refl _) R (.int _)⟩
  · cases e
/-! ### == and != of data -/
mutual
def py : D → PyData
  | .non => .none
  | .bl b => .bool b
  | .int i => .int i
  | .str x => .str x
  | .lst ds => .list (pys ds)
  | .tup ds => .tuple (pys ds)
  | .src => .none
  | .scr _ => .none
def pys : List D → List PyData
  | [] => []
  | d :: ds => py d :: pys ds
end
mutual
/-- data that may be compared, at most so deep -/
def okC : Nat → D → Bool
  | _, .non => true
  | _, .bl _ => true
  | _, .int _ => true
  | _, .str _ => true
  | 0, .lst _ => false
  | 0, .tup _ => false
  | n + 1, .lst ds => okCs n ds
  | n + 1, .tup ds => okCs n ds
  | _, .src => false
  | _, .scr _ => false
def okCs : Nat → List D → Bool
  | _, [] => true
  | n, d :: ds => okC n d && okCs n ds
end
mutual
def deq : D → D → Bool
  | .non, .non => true
  | .bl a, .bl b => a == b
  | .bl a, .int j => (if a then 1 else 0) == j
  | .int i, .bl b => i == (if b then 1 else 0)
  | .int i, .int j => i == j
  | .str x, .str y => x == y
  | .lst xs, .lst ys => deqs xs ys
  | .tup xs, .tup ys => deqs xs ys
  | _, _ => false
def deqs : List D → List D → Bool
  | [], [] => true
  | x :: xs, y :: ys => deq x y && deqs xs ys
  | _, _ => false
end
mutual
theorem deq_py : ∀ (n m : Nat) (a b : D), okC n a = true → okC m b = true → PyData.eqv (py a) (py b) = deq a b
  | n, m, .non, b, ha, hb => by cases b <;> first | (cases m <;> simp [okC] at hb; done) | (simp [py, PyData.eqv, deq])
  | n, m, .bl x, b, ha, hb => by cases b <;> first | (cases m <;> simp [okC] at hb; done) | (simp [py, PyData.eqv, deq])
  | n, m, .int x, b, ha, hb => by cases b <;> first | (cases m <;> simp [okC] at hb; done) | (simp [py, PyData.eqv, deq])
  | n, m, .str x, b, ha, hb => by cases b <;> first | (cases m <;> simp [okC] at hb; done) | (simp [py, PyData.eqv, deq])
  | 0, m, .lst x, b, ha, hb => by simp [okC] at ha
  | 0, m, .tup x, b, ha, hb => by simp [okC] at ha
  | n + 1, m, .lst xs, b, ha, hb => by
    cases b with
    | lst ys =>
      cases m with
      | zero => simp [okC] at hb
      | succ m =>
        simp only [okC] at ha hb
        simp only [py, PyData.eqv, deq]
        exact deqs_py n m xs ys ha hb
    | _ => first | (cases m <;> simp [okC] at hb; done) | (simp [py, PyData.eqv, deq])
  | n + 1, m, .tup xs, b, ha, hb => by
    cases b with
    | tup ys =>
      cases m with
      | zero => simp [okC] at hb
      | succ m =>
        simp only [okC] at ha hb
        simp only [py, PyData.eqv, deq]
        exact deqs_py n m xs ys ha hb
    | _ => first | (cases m <;> simp [okC] at hb; done) | (simp [py, PyData.eqv, deq])
  | n, m, .src, b, ha, hb => by cases n <;> simp [okC] at ha
  | n, m, .scr _, b, ha, hb => by cases n <;> simp [okC] at ha
theorem deqs_py : ∀ (n m : Nat) (a b : List D), okCs n a = true → okCs m b = true → PyData.eqvAll (pys a) (pys b) = deqs a b
  | n, m, [], [], _, _ => by simp [pys, PyData.eqvAll, deqs]
  | n, m, [], _ :: _, _, _ => by simp [pys, PyData.eqvAll, deqs]
  | n, m, _ :: _, [], _, _ => by simp [pys, PyData.eqvAll, deqs]
  | n, m, x :: xs, y :: ys, ha, hb => by
    simp only [okCs, Bool.and_eq_true] at ha hb
    simp only [pys, PyData.eqvAll, deqs]
    rw [deq_py n m x y ha.1 hb.1, deqs_py n m xs ys ha.2 hb.2]
end
def Gh.at_ (G : Gh) (H : Hp) : Gh := ⟨H, G.sa⟩
theorem Rel.le_at {K : PySem.W.Frag} {Z : Hp} {G : Gh} {σ : L2.St} {H : Hp} {ρ : PS} (R : Rel K Z G σ H ρ) : G.Le (G.at_ H) := ⟨R.fz, fun _ h => h⟩
mutual
theorem Rp.dp {K : PySem.W.Frag} {G : Gh} {H : Hp} : ∀ (n : Nat) {v : V} {d : D}, Rp K (G.at_ H) v d → okC n d = true → Dp K H v (py d)
  | _, _, _, .non, _ => by simp only [py]; exact .non
  | _, _, _, .bl b, _ => by simp only [py]; exact .bl b
  | _, _, _, .int i, _ => by simp only [py]; exact .int i
  | _, _, _, .str x _, _ => by simp only [py]; exact .str x
  | 0, _, _, .lst s r, h => by simp [okC] at h
  | 0, _, _, .tup s r, h => by simp [okC] at h
  | n + 1, _, _, .lst s r, h => by simp only [py]; exact .lst (.inl (.inl s)) (RpA.dp n r (by simpa only [okC] using h))
  | n + 1, _, _, .tup s r, h => by simp only [py]; exact .tup s (RpA.dp n r (by simpa only [okC] using h))
  | n, _, _, .src s, h => by cases n <;> simp [okC] at h
  | n, _, _, .scr s, h => by cases n <;> simp [okC] at h
theorem RpA.dp {K : PySem.W.Frag} {G : Gh} {H : Hp} : ∀ (n : Nat) {vs : List V} {ds : List D}, RpA K (G.at_ H) vs ds → okCs n ds = true → DpAll K H vs (pys ds)
  | _, _, _, .nil, _ => by simp only [pys]; exact .nil
  | n, _, _, .cons r t, h => by
    simp only [okCs, Bool.and_eq_true] at h
    simp only [pys]
    exact .cons (Rp.dp n r h.1) (RpA.dp n t h.2)
end
mutual
theorem Rp.lay {K : PySem.W.Frag} {G : Gh} : ∀ (n : Nat) {v : V} {d : D}, Rp K G v d → okC n d = true → (py d).canLay0 = true ∧ (py d).depth ≤ n
  | _, _, _, .non, _ => by simp [py, PyData.canLay0, PyData.depth]
  | _, _, _, .bl b, _ => by simp [py, PyData.canLay0, PyData.depth]
  | _, _, _, .int i, _ => by simp [py, PyData.canLay0, PyData.depth]
  | _, _, _, .str x h, _ => by simp [py, PyData.canLay0, PyData.depth]; exact h
  | 0, _, _, .lst s r, h => by simp [okC] at h
  | 0, _, _, .tup s r, h => by simp [okC] at h
  | n + 1, _, _, .lst s r, h => by
    have q := RpA.lay n r (by simpa only [okC] using h)
    simp only [py, PyData.canLay0, PyData.depth]
    exact ⟨q.1, by omega⟩
  | n + 1, _, _, .tup s r, h => by
    have q := RpA.lay n r (by simpa only [okC] using h)
    simp only [py, PyData.canLay0, PyData.depth]
    exact ⟨q.1, by omega⟩
  | n, _, _, .src s, h => by cases n <;> simp [okC] at h
  | n, _, _, .scr s, h => by cases n <;> simp [okC] at h
theorem RpA.lay {K : PySem.W.Frag} {G : Gh} : ∀ (n : Nat) {vs : List V} {ds : List D}, RpA K G vs ds → okCs n ds = true → PyData.canLayAll0 (pys ds) = true ∧ PyData.depthAll (pys ds) ≤ n
  | _, _, _, .nil, _ => by simp [pys, PyData.canLayAll0, PyData.depthAll]
  | n, _, _, .cons r t, h => by
    simp only [okCs, Bool.and_eq_true] at h
    have q1 := Rp.lay n r h.1
    have q2 := RpA.lay n t h.2
    simp only [pys, PyData.canLayAll0, PyData.depthAll, q1.1, q2.1, Bool.and_self, true_and]
    omega
end
def cmpOk (d : D) : Bool := okC 20 d
theorem Rp.shaped {K : PySem.W.Frag} {G : Gh} {v : V} {d : D} (r : Rp K G v d) (h : cmpOk d = true) : SeqAt.shaped (py d) = true := by
  have q := Rp.lay 20 r h
  unfold SeqAt.shaped
  rw [q.1, decide_eq_true (show (py d).depth ≤ 64 by omega)]
  rfl
def gEq : O2 := fun a b => if cmpOk a && cmpOk b then some (.bl (deq a b)) else none
def gNe : O2 := fun a b => if cmpOk a && cmpOk b then some (.bl (!deq a b)) else none
/-- a comparison of things as they lie -/
def DCmp (K : PySem.W.Frag) (r : R2) (g : O2) : Prop := ∀ (G : Gh) (H : Hp) x y dx dy dz (Q : VK), Rp K (G.at_ H) x dx → Rp K (G.at_ H) y dy → g dx dy = some dz → (∀ b, dz = .bl b → Q (.bl b) H) → r x y H Q
def bout (g : O2) : Prop := ∀ a b d, g a b = some d → ∃ k, d = .bl k
theorem DCmp.op {K : PySem.W.Frag} {r : R2} {g : O2} (h : DCmp K r g) : DOp K r g := fun Z G σ H ρ x y dx dy dz Q R rx ry e q =>
  h G H x y dx dy dz Q (rx.mono R.le_at) (ry.mono R.le_at) e fun b eb => q _ _ G (.refl _) R (by rw [eb]; exact .bl b)
theorem d_eq' {K : PySem.W.Frag} : DCmp K (rEqD K) gEq := by
  intro G H x y dx dy dz Q rx ry e q
  unfold gEq at e
  split at e
  · rename_i h
    rw [Bool.and_eq_true] at h
    cases e
    refine ⟨py dx, py dy, Rp.dp 20 rx h.1, Rp.dp 20 ry h.2, rx.shaped h.1, ry.shaped h.2, ?_⟩
    rw [deq_py 20 20 dx dy h.1 h.2]
    exact q _ rfl
  · cases e
theorem d_ne' {K : PySem.W.Frag} : DCmp K (rNeD K) gNe := by
  intro G H x y dx dy dz Q rx ry e q
  unfold gNe at e
  split at e
  · rename_i h
    rw [Bool.and_eq_true] at h
    cases e
    refine ⟨py dx, py dy, Rp.dp 20 rx h.1, Rp.dp 20 ry h.2, rx.shaped h.1, ry.shaped h.2, ?_⟩
    rw [deq_py 20 20 dx dy h.1 h.2]
    exact q _ rfl
  · cases e
theorem d_eq {K : PySem.W.Frag} : DOp K (rEqD K) gEq := d_eq'.op
theorem d_ne {K : PySem.W.Frag} : DOp K (rNeD K) gNe := d_ne'.op
def gIs : O2 := fun a b => match b with
  | .non => (match a with | .non => some (.bl true) | _ => some (.bl false))
  | _ => none
def gIsNot : O2 := fun a b => match b with
  | .non => (match a with | .non => some (.bl false) | _ => some (.bl true))
  | _ => none
theorem d_is {K : PySem.W.Frag} : DOp K (fun x y H Q => y = .non ∧ Q (.bl (decide (x = .non))) H) gIs := by
  intro Z G σ H ρ x y dx dy dz Q R rx ry e q
  cases dy with
  | non =>
    cases ry
    refine ⟨rfl, ?_⟩
    cases rx <;> (cases e; exact q _ _ G (.refl _) R (.bl _))
  | _ => cases e
theorem d_isnot {K : PySem.W.Frag} : DOp K (fun x y H Q => y = .non ∧ Q (.bl (!decide (x = .non))) H) gIsNot := by
  intro Z G σ H ρ x y dx dy dz Q R rx ry e q
  cases dy with
  | non =>
    cases ry
    refine ⟨rfl, ?_⟩
    cases rx <;> (cases e; exact q _ _ G (.refl _) R (.bl _))
  | _ => cases e
/-! ### calls of built-in functions -/
def gAbs : List D → Option D
  | [.int i] => some (.int (if i < 0 then -i else i))
  | _ => none
def gInt : List D → Option D
  | [.int i] => some (.int i)
  | [.bl b] => some (.int (if b then 1 else 0))
  | _ => none
def gMax2 : List D → Option D
  | [.int i, .int j] => some (.int (if j > i then j else i))
  | _ => none
def gMin2 : List D → Option D
  | [.int i, .int j] => some (.int (if j < i then j else i))
  | _ => none
def gLen : List D → Option D
  | [.lst ds] => some (.int ds.length)
  | [.tup ds] => some (.int ds.length)
  | [.str x] => if x.length ≤ smallN then some (.int x.length) else none
  | _ => none
def gTupOf : List D → Option D
  | [.lst ds] => some (.tup ds)
  | [.tup ds] => some (.tup ds)
  | _ => none
def gLstOf : List D → Option D
  | [.lst ds] => some (.lst ds)
  | [.tup ds] => some (.lst ds)
  | _ => none
section
variable {K : PySem.W.Frag}
theorem one_of {G : Gh} {xs : List V} {d : D} (r : RpA K G xs [d]) : ∃ v, xs = [v] ∧ Rp K G v d := by
  cases r with
  | cons r t => cases t; exact ⟨_, rfl, r⟩
theorem two_of {G : Gh} {xs : List V} {d e : D} (r : RpA K G xs [d, e]) : ∃ v w, xs = [v, w] ∧ Rp K G v d ∧ Rp K G w e := by
  cases r with
  | cons r t =>
    cases t with
    | cons r2 t => cases t; exact ⟨_, _, rfl, r, r2⟩
theorem d_abs : DCall K (fun xs H Q => ∃ i, xs = [.int i] ∧ Q (.int (if i < 0 then -i else i)) H) gAbs := by
  intro Z G σ H ρ xs ds dz Q R r e q
  unfold gAbs at e
  split at e
  · obtain ⟨v, rfl, r1⟩ := one_of r
    cases r1; cases e
    exact ⟨_, rfl, q _ _ G (.refl _) R (.int _)⟩
  · cases e
theorem d_max2 : DCall K (fun xs H Q => ∃ i j, xs = [.int i, .int j] ∧ Q (.int (if j > i then j else i)) H) gMax2 := by
  intro Z G σ H ρ xs ds dz Q R r e q
  unfold gMax2 at e
  split at e
  · obtain ⟨v, w, rfl, r1, r2⟩ := two_of r
    cases r1; cases r2; cases e
    exact ⟨_, _, rfl, q _ _ G (.refl _) R (.int _)⟩
  · cases e
theorem d_min2 : DCall K (fun xs H Q => ∃ i j, xs = [.int i, .int j] ∧ Q (.int (if j < i then j else i)) H) gMin2 := by
  intro Z G σ H ρ xs ds dz Q R r e q
  unfold gMin2 at e
  split at e
  · obtain ⟨v, w, rfl, r1, r2⟩ := two_of r
    cases r1; cases r2; cases e
    exact ⟨_, _, rfl, q _ _ G (.refl _) R (.int _)⟩
  · cases e
theorem d_int : DCall K (fun xs H Q => (∃ i, xs = [.int i] ∧ Q (.int i) H) ∨ (∃ b, xs = [.bl b] ∧ Q (.int (if b then 1 else 0)) H)) gInt := by
  intro Z G σ H ρ xs ds dz Q R r e q
  unfold gInt at e
  split at e
  · obtain ⟨v, rfl, r1⟩ := one_of r
    cases r1; cases e
    exact .inl ⟨_, rfl, q _ _ G (.refl _) R (.int _)⟩
  · obtain ⟨v, rfl, r1⟩ := one_of r
    cases r1; cases e
    exact .inr ⟨_, rfl, q _ _ G (.refl _) R (.int _)⟩
  · cases e
theorem d_len : DCall K (fun xs H Q => ∃ x n, xs = [x] ∧ LenV K x H n ∧ Q (.int n) H) gLen := by
  intro Z G σ H ρ xs ds dz Q R r e q
  unfold gLen at e
  split at e
  · obtain ⟨v, rfl, r1⟩ := one_of r
    cases r1 with
    | lst s t =>
      cases e
      exact ⟨_, _, rfl, .inl ⟨_, .inl (.inl (R.fz _ _ s)), (by rw [t.length])⟩, q _ _ G (.refl _) R (.int _)⟩
  · obtain ⟨v, rfl, r1⟩ := one_of r
    cases r1 with
    | tup s t =>
      cases e
      exact ⟨_, _, rfl, .inr ⟨_, sqT_mono R.fz s, (by rw [t.length])⟩, q _ _ G (.refl _) R (.int _)⟩
  · split at e
    · rename_i hz
      obtain ⟨v, rfl, r1⟩ := one_of r
      cases r1
      cases e
      exact ⟨_, _, rfl, ⟨smallN_le hz, rfl⟩, q _ _ G (.refl _) R (.int _)⟩
    · cases e
  · cases e
theorem d_tupOf : DCall K (fun xs H Q => ∃ p ys, xs = [.ref p] ∧ ((SqL K H p ys ∧ ∀ l, H l = none → Q (.ref l) (upd H l (.tup ys))) ∨ (SqT K H p ys ∧ Q (.ref p) H))) gTupOf := by
  intro Z G σ H ρ xs ds dz Q R r e q
  unfold gTupOf at e
  split at e
  · obtain ⟨v, rfl, r1⟩ := one_of r
    cases r1 with
    | lst s t =>
      cases e
      exact ⟨_, _, rfl, .inl ⟨.inl (.inl (R.fz _ _ s)), mk_tup R t q⟩⟩
  · obtain ⟨v, rfl, r1⟩ := one_of r
    cases r1 with
    | tup s t =>
      cases e
      exact ⟨_, _, rfl, .inr ⟨sqT_mono R.fz s, q _ _ G (.refl _) R (.tup s t)⟩⟩
  · cases e
theorem d_lstOf : DCall K (fun xs H Q => ∃ p ys, xs = [.ref p] ∧ (SqL K H p ys ∨ SqT K H p ys) ∧ ∀ l, H l = none → Q (.ref l) (upd H l (.lst ys))) gLstOf := by
  intro Z G σ H ρ xs ds dz Q R r e q
  unfold gLstOf at e
  split at e
  · obtain ⟨v, rfl, r1⟩ := one_of r
    cases r1 with
    | lst s t =>
      cases e
      exact ⟨_, _, rfl, .inl (.inl (.inl (R.fz _ _ s))), mk_lst R t q⟩
  · obtain ⟨v, rfl, r1⟩ := one_of r
    cases r1 with
    | tup s t =>
      cases e
      exact ⟨_, _, rfl, .inr (sqT_mono R.fz s), mk_lst R t q⟩
  · cases e
end
end PL
/-! PL5: lists of a slot's own, subscripts, slices, comprehensions. -/
namespace PL
open PySem PySem.Spec PyProof.Rows L2

section
variable {K : PySem.W.Frag} {Z : Hp} {G G' : Gh} {σ : L2.St} {H H' : Hp} {ρ : PS}
/-! ### a new list, held in the zone -/
theorem Rel.newZ (r : Rel K Z G σ H ρ) {p : Addr} (hp : H p = none) (o : HO) : Rel K (upd Z p o) G σ (upd H p o) ρ ∧ Z p = none := by
  have fp := r.fnone hp
  have ne : ∀ {a u}, H a = some u → a ≠ p := fun h => ne_of_none h hp
  have zp : Z p = none := by
    cases e : Z p with
    | none => rfl
    | some o => rw [(r.zz p o e).1] at hp; cases hp
  refine ⟨⟨r.len, fun a u e => by rw [upd_ne (ne (r.fz a u e))]; exact r.fz a u e, fun a u e => ?_, ?_, fun i sl e => ?_, r.sep, fun i a h => ?_, r.os⟩, zp⟩
  · by_cases h : a = p
    · subst h
      rw [upd_same] at e ⊢
      exact ⟨e, fp⟩
    · rw [upd_ne h] at e ⊢
      exact r.zz a u e
  · have sr := r.sr
    cases q : ρ.src with
    | none => rw [q] at sr; exact sr
    | some s =>
      rw [q] at sr
      obtain ⟨a, c, e, h1, h2, f1, f2, z1, z2⟩ := sr
      exact ⟨a, c, e, by rw [upd_ne (ne h1)]; exact h1, by rw [upd_ne (ne h2)]; exact h2, f1, f2, by rw [upd_ne (ne h1)]; exact z1, by rw [upd_ne (ne h2)]; exact z2⟩
  · obtain ⟨x, ex, q⟩ := r.en i sl e
    exact ⟨x, ex, q.mono (.refl _) fun a vs _ h1 h2 => ⟨by rw [upd_ne (ne h1)]; exact h1, h2⟩⟩
  · obtain ⟨_, vs, _, h1, _⟩ := r.own h
    rw [upd_ne (ne h1)]
    exact r.oz i a h
theorem Rel.outZ {p : Addr} {o : HO} (r : Rel K (upd Z p o) G σ H ρ) (zp : Z p = none) : Rel K Z G σ H ρ ∧ H p = some o ∧ G.F p = none ∧ (∀ i, ¬ Own σ ρ i p) ∧ ∀ a c, G.sa = some (a, c) → p ≠ a ∧ p ≠ c := by
  obtain ⟨hp, fp⟩ := r.zz p o upd_same
  have nz : ∀ {a}, upd Z p o a = none → a ≠ p ∧ Z a = none := fun {a} h => by
    have n : a ≠ p := by rintro rfl; rw [upd_same] at h; cases h
    rw [upd_ne n] at h
    exact ⟨n, h⟩
  refine ⟨⟨r.len, r.fz, fun a u e => ?_, ?_, r.en, r.sep, fun i a h => (nz (r.oz i a h)).2, r.os⟩, hp, fp, fun i h => (nz (r.oz i p h)).1 rfl, fun a c e => ?_⟩
  · have n : a ≠ p := by rintro rfl; rw [zp] at e; cases e
    exact r.zz a u (by rw [upd_ne n]; exact e)
  · have sr := r.sr
    cases q : ρ.src with
    | none => rw [q] at sr; exact sr
    | some s =>
      rw [q] at sr
      obtain ⟨a, c, e, h1, h2, f1, f2, z1, z2⟩ := sr
      exact ⟨a, c, e, h1, h2, f1, f2, (nz z1).2, (nz z2).2⟩
  · have sr := r.sr
    cases q : ρ.src with
    | none =>
      rw [q] at sr
      have sr : G.sa = none := sr
      rw [sr] at e; cases e
    | some s =>
      rw [q] at sr
      obtain ⟨a', c', e', _, _, _, _, z1, z2⟩ := sr
      rw [e'] at e
      cases e
      exact ⟨(nz z1).1.symm, (nz z2).1.symm⟩
theorem Rel.writeZ {p : Addr} {o o' : HO} (r : Rel K (upd Z p o) G σ H ρ) (zp : Z p = none) : Rel K (upd Z p o') G σ (upd H p o') ρ := by
  obtain ⟨R, hp, fp, no, ns⟩ := r.outZ zp
  refine ⟨R.len, fun a u e => ?_, fun a u e => ?_, ?_, fun i sl e => ?_, R.sep, fun i a h => ?_, R.os⟩
  · have n : a ≠ p := by rintro rfl; rw [fp] at e; cases e
    rw [upd_ne n]; exact R.fz a u e
  · by_cases h : a = p
    · subst h
      rw [upd_same] at e ⊢
      exact ⟨e, fp⟩
    · rw [upd_ne h] at e ⊢
      exact R.zz a u e
  · have sr := R.sr
    cases q : ρ.src with
    | none => rw [q] at sr; exact sr
    | some s =>
      rw [q] at sr
      obtain ⟨a, c, e, h1, h2, f1, f2, z1, z2⟩ := sr
      obtain ⟨n1, n2⟩ := ns a c e
      exact ⟨a, c, e, by rw [upd_ne n1.symm]; exact h1, by rw [upd_ne n2.symm]; exact h2, f1, f2, by rw [upd_ne n1.symm]; exact z1, by rw [upd_ne n2.symm]; exact z2⟩
  · obtain ⟨x, ex, z⟩ := R.en i sl e
    refine ⟨x, ex, ?_⟩
    cases sl with
    | val d => exact z
    | ml ds =>
      obtain ⟨b, ws, e1, h1, h2, z⟩ := z
      subst e1
      have : b ≠ p := by
        rintro rfl
        exact no i ⟨⟨_, e, rfl⟩, ex⟩
      exact ⟨b, ws, rfl, by rw [upd_ne this]; exact h1, h2, z⟩
  · have : a ≠ p := by rintro rfl; exact no i h
    rw [upd_ne this]
    exact R.oz i a h
theorem Rel.freezeZ {p : Addr} {o : HO} (r : Rel K (upd Z p o) G σ H ρ) (zp : Z p = none) : Rel K Z (G.add p o) σ H ρ ∧ G.Le (G.add p o) := by
  obtain ⟨R, hp, fp, no, ns⟩ := r.outZ zp
  refine ⟨⟨R.len, fun a u e => ?_, fun a u e => ?_, ?_, fun i sl e => ?_, R.sep, R.oz, R.os⟩, Gh.le_add fp⟩
  · have e' : upd G.F p o a = some u := e
    by_cases h : a = p
    · subst h; rw [upd_same] at e'; rw [hp]; exact e'
    · rw [upd_ne h] at e'; exact R.fz a u e'
  · have n : a ≠ p := by rintro rfl; rw [zp] at e; cases e
    refine ⟨(R.zz a u e).1, ?_⟩
    show upd G.F p o a = none
    rw [upd_ne n]; exact (R.zz a u e).2
  · have sr := R.sr
    cases q : ρ.src with
    | none => rw [q] at sr; exact sr
    | some s =>
      rw [q] at sr
      obtain ⟨a, c, e, h1, h2, f1, f2, z⟩ := sr
      obtain ⟨n1, n2⟩ := ns a c e
      refine ⟨a, c, e, h1, h2, ?_, ?_, z⟩
      · show upd G.F p o a = none
        rw [upd_ne n1.symm]; exact f1
      · show upd G.F p o c = none
        rw [upd_ne n2.symm]; exact f2
  · obtain ⟨x, ex, z⟩ := R.en i sl e
    refine ⟨x, ex, ?_⟩
    have l : G.Le (G.add p o) := Gh.le_add fp
    cases sl with
    | val d =>
      obtain ⟨v, e1, r1⟩ := z
      exact ⟨v, e1, r1.mono l⟩
    | ml ds =>
      obtain ⟨b, ws, e1, h1, h2, z⟩ := z
      subst e1
      have : b ≠ p := by
        rintro rfl
        exact no i ⟨⟨_, e, rfl⟩, ex⟩
      refine ⟨b, ws, rfl, h1, ?_, z.mono l⟩
      show upd G.F p o b = none
      rw [upd_ne this]; exact h2
/-- the list in the zone becomes a slot's own -/
theorem Rel.ownZ {i : Nat} {p : Addr} {vs : List V} {ds : List D} (r : Rel K (upd Z p (.lst vs)) G σ H ρ) (zp : Z p = none) (q : RpA K G vs ds) : Rel K Z G (σ.set i (some (.ref p))) H (ρ.set i (.ml ds)) := by
  obtain ⟨R, hp, fp, no, ns⟩ := r.outZ zp
  have ow : ∀ {j a}, Own (σ.set i (some (.ref p))) (ρ.set i (.ml ds)) j a → (j = i ∧ a = p) ∨ (j ≠ i ∧ Own σ ρ j a ∧ a ≠ p) := fun {j a} ⟨⟨sl, e, m⟩, s⟩ => by
    by_cases hj : j = i
    · subst hj
      rw [List.getElem?_set, if_pos rfl] at s
      split at s
      · cases s; exact .inl ⟨rfl, rfl⟩
      · cases s
    · have e' : (ρ.env.set i (some (.ml ds)))[j]? = some (some sl) := e
      rw [List.getElem?_set_ne (Ne.symm hj)] at e' s
      have o : Own σ ρ j a := ⟨⟨sl, e', m⟩, s⟩
      exact .inr ⟨hj, o, by rintro rfl; exact no j o⟩
  refine ⟨by show (σ.set i _).length = (ρ.env.set i _).length; rw [List.length_set, List.length_set]; exact R.len, R.fz, R.zz, R.sr, fun j sl e => ?_, fun j k a h1 h2 => ?_, fun j a h => ?_, fun j a p' c h e => ?_⟩
  · have e' : (ρ.env.set i (some (.ml ds)))[j]? = some (some sl) := e
    by_cases hj : j = i
    · subst hj
      rw [List.getElem?_set, if_pos rfl] at e'
      split at e'
      · cases e'
        rename_i hl
        exact ⟨some (.ref p), by rw [List.getElem?_set, if_pos rfl, if_pos (by rw [R.len]; exact hl)], p, vs, rfl, hp, fp, q⟩
      · cases e'
    · rw [List.getElem?_set_ne (Ne.symm hj)] at e'
      obtain ⟨x, ex, z⟩ := R.en j sl e'
      exact ⟨x, by rw [List.getElem?_set_ne (Ne.symm hj)]; exact ex, z⟩
  · rcases ow h1 with ⟨rfl, rfl⟩ | ⟨n1, o1, a1⟩
    · rcases ow h2 with ⟨rfl, _⟩ | ⟨n2, o2, a2⟩
      · rfl
      · exact absurd rfl a2
    · rcases ow h2 with ⟨rfl, rfl⟩ | ⟨n2, o2, a2⟩
      · exact absurd rfl a1
      · exact R.sep j k a o1 o2
  · rcases ow h with ⟨rfl, rfl⟩ | ⟨n1, o1, a1⟩
    · exact zp
    · exact R.oz j a o1
  · rcases ow h with ⟨rfl, rfl⟩ | ⟨n1, o1, a1⟩
    · exact ns p' c e
    · exact R.os j a p' c o1 e
end
section
variable {X : Cx} {W : WX} {a b e : Expr} {fa fb fe : FX D} {pos : Pos} {es : List Expr} {fs : FX (List D)}
/-! ### a, b = [..], y with a list of its own first -/
theorem ds_parNew {i j : Nat} {st : Stmt} {p2 : Pos}
    (h : ∀ t, PA X [.List es p2, b] t → L2.PS X st (tPar i j t)) (ha : DA X W es fs) (hb : DE X W b fb)
    (hs : starEach [.List es p2, b] X.env = (false, eval (.List es p2) X.env) :: starEach [b] X.env := by rfl) (hs2 : starEach [b] X.env = (false, eval b X.env) :: starEach [] X.env := by rfl) : DS X W st (xParNew i j fs fb) := by
  refine PS.imp (h _ (pa_cons (pe_lst ha) (pa_cons hb pa_nil hs2) hs)) ?_
  rintro E σ H h
  refine tG_imp (tS_bind (RV := RpA X.K) h) fun vs H1 ⟨Z, G, ρ, ds, R, r, p⟩ => ?_
  by_cases hz : ds.length ≤ smallN
  · rw [if_pos hz] at p
    refine ⟨by rw [r.length]; exact smallN_le hz, fun q hq => ?_⟩
    obtain ⟨R1, zq⟩ := R.newZ hq (.lst vs)
    refine ⟨upd Z q (.lst vs), G, ρ, R1, ?_⟩
    cases e2 : fb ρ with
    | none => rw [e2] at p; exact False.elim p
    | some o =>
      rw [e2] at p
      cases o with
      | er x ρ1 => exact fun c dd H2 G2 l2 R2 rx => p c dd σ H2 G2 l2 (R2.outZ zq).1 rx
      | ok d ρ1 =>
        intro v H2 G2 l2 R2 rv
        exact ⟨_, _, rfl, p _ _ G2 l2 ((R2.ownZ zq (r.mono l2)).setVal rv)⟩
  · rw [if_neg hz] at p
    exact False.elim p
/-! ### methods of a slot's own list -/
/-- x.append(e) -/
def xAppend (i : Nat) (f : FX D) : FS := fun ρ => match ρ.env[i]? with
  | some (some (.ml _)) => xbS (f ρ) fun d ρ1 => match ρ1.env[i]? with
    | some (some (.ml ds)) => if ds.length < smallN then some (.nx (ρ1.set i (.ml (ds ++ [d])))) else none
    | _ => none
  | _ => none
theorem slot_ml {K : PySem.W.Frag} {Z : Hp} {G : Gh} {σ : L2.St} {H : Hp} {ρ : PS} (R : Rel K Z G σ H ρ) {i : Nat} {ds : List D} (e : ρ.env[i]? = some (some (.ml ds))) : ∃ a vs, σ[i]? = some (some (.ref a)) ∧ H a = some (.lst vs) ∧ RpA K G vs ds := by
  obtain ⟨x, ex, z⟩ := R.en i _ e
  obtain ⟨a, vs, e1, h1, _, r⟩ := z
  subst e1
  exact ⟨a, vs, ex, h1, r⟩
theorem ds_append {i : Nat} {o : Expr} {apos cpos : Pos} (ho : PE X o (tVar i)) (he : DE X W e fe)
    (hbase : attributeBase o "append" X.env (eval o X.env) = eval o X.env := by rfl)
    (hfew : ((backTo cpos (starEach [e] X.env)).all (fun x => !x.1) && (backToKw cpos (keywordEach [] X.env)).all (fun x => x.1.isSome)
      && decide ([e].length + ([] : List Keyword).length + (if ([] : List Keyword).isEmpty then 0 else 1) < 30)) = true := by rfl)
    (hline : (apos.endLine == cpos.line) = true := by rfl) (hs : starEach [e] X.env = (false, eval e X.env) :: starEach [] X.env := by rfl) (hplain : (backTo cpos (starEach [] X.env)).any (·.1) = false := by rfl)
    (hsw : swapsWith (.Call (.Attribute o "append" apos) [e] [] cpos) none pos.line X.env = pure false := by rfl) :
    DS X W (.Expr (.Call (.Attribute o "append" apos) [e] [] cpos) pos) (xAppend i fe) := by
  refine PS.imp (ps_expr (pe_bm PySem.F.plainAttrs_list PySem.F.slot_list_append PySem.F.type_list_append mt_append ho (pa_cons he pa_nil hs) hbase hfew hline hs hplain) hsw) ?_
  rintro E σ H ⟨Z, G, ρ, R, p⟩
  unfold xAppend at p
  cases e1 : ρ.env[i]? with
  | none => simp only [e1] at p; exact False.elim p
  | some o =>
    cases o with
    | none => simp only [e1] at p; exact False.elim p
    | some sl =>
      cases sl with
      | val d => simp only [e1] at p; exact False.elim p
      | ml ds =>
        simp only [e1] at p
        obtain ⟨a, vs, ea, h1, r⟩ := slot_ml R e1
        refine ⟨.ref a, ea, .inl ⟨rfl, _, SqL.of h1⟩, ?_⟩
        refine tG_imp (tS_bind (RV := Rp X.K) ⟨Z, G, ρ, R, p⟩) fun v H1 ⟨Z1, G1, ρ1, d, R1, r1, p1⟩ => ?_
        cases e2 : ρ1.env[i]? with
        | none => simp only [e2] at p1; exact False.elim p1
        | some o =>
          cases o with
          | none => simp only [e2] at p1; exact False.elim p1
          | some sl =>
            cases sl with
            | val d => simp only [e2] at p1; exact False.elim p1
            | ml ds1 =>
              simp only [e2] at p1
              obtain ⟨a1, vs1, ea1, h2, r2⟩ := slot_ml R1 e2
              rw [ea] at ea1
              cases ea1
              by_cases hz : ds1.length < smallN
              · rw [if_pos hz] at p1
                exact ⟨a, vs1, v, rfl, rfl, h2, by rw [r2.length]; exact Nat.lt_of_lt_of_le hz (by decide), p1 _ _ G1 (.refl _) (R1.write e2 ea (r2.append (.one r1)))⟩
              · rw [if_neg hz] at p1
                exact False.elim p1
/-- x.pop() -/
def xPop (i : Nat) : FX D := fun ρ => match ρ.env[i]? with
  | some (some (.ml ds)) => match ds[ds.length - 1]? with
    | some d => some (.ok d (ρ.set i (.ml ds.dropLast)))
    | none => none
  | _ => none
theorem de_pop {i : Nat} {o : Expr} {apos cpos : Pos} (ho : PE X o (tVar i))
    (hbase : attributeBase o "pop" X.env (eval o X.env) = eval o X.env := by rfl) (hline : (apos.endLine == cpos.line) = true := by rfl) : DE X W (.Call (.Attribute o "pop" apos) [] [] cpos) (xPop i) := by
  refine PE.imp (pe_bm0 PySem.F.plainAttrs_list PySem.F.slot_list_pop PySem.F.type_list_pop mt_pop ho hbase hline) ?_
  rintro σ H Q ⟨Z, G, ρ, R, p⟩
  unfold xPop at p
  cases e1 : ρ.env[i]? with
  | none => simp only [e1] at p; exact False.elim p
  | some o =>
    cases o with
    | none => simp only [e1] at p; exact False.elim p
    | some sl =>
      cases sl with
      | val d => simp only [e1] at p; exact False.elim p
      | ml ds =>
        simp only [e1] at p
        obtain ⟨a, vs, ea, h1, r⟩ := slot_ml R e1
        cases e2 : ds[ds.length - 1]? with
        | none => simp only [e2] at p; exact False.elim p
        | some d =>
          simp only [e2] at p
          obtain ⟨v, hv, rv⟩ := r.get e2
          exact ⟨.ref a, ea, .inl ⟨rfl, _, SqL.of h1⟩, a, vs, v, rfl, rfl, h1, by rw [r.length]; exact hv, p.ok (.refl _) (R.write e1 ea r.dropLast) rv⟩
/-- x.pop(k) -/
def xPopAt (i : Nat) (f : FX D) : FX D := fun ρ => match ρ.env[i]? with
  | some (some (.ml _)) => xb (f ρ) fun k ρ1 => match k, ρ1.env[i]? with
    | .int k, some (some (.ml ds)) => if 0 ≤ k ∧ k < 2 ^ 40 then match ds[k.toNat]? with
        | some d => some (.ok d (ρ1.set i (.ml (ds.eraseIdx k.toNat))))
        | none => none
      else none
    | _, _ => none
  | _ => none
/-! ### a comparison, a call, a subscript of a slot's own list, as it lies -/
def asL (ρ : PS) (i : Nat) : Option (List D) := match ρ.env[i]? with
  | some (some (.ml ds)) => some ds
  | _ => none
theorem asL_some {ρ : PS} {i : Nat} {ds : List D} (h : asL ρ i = some ds) : ρ.env[i]? = some (some (.ml ds)) := by
  unfold asL at h
  split at h
  · cases h; assumption
  · cases h
/-- x op b -/
def xCmpM (i : Nat) (g : O2) (fb : FX D) : FX D := fun ρ => match asL ρ i with
  | none => none
  | some _ => xb (fb ρ) fun b ρ1 => match asL ρ1 i with
    | none => none
    | some ds => match g (.lst ds) b with
      | some (.bl k) => some (.ok (.bl k) ρ1)
      | _ => none
theorem cmpM_run {i : Nat} {r : R2} {g : O2} (hd : DCmp X.K r g) {σ : L2.St} {H : Hp} {Q : VK} (h : tG X.K W (Rp X.K) (xCmpM i g fb) σ H Q) :
    tVar i σ H fun x H1 => tG X.K W (Rp X.K) fb σ H1 fun y H2 => r x y H2 Q := by
  obtain ⟨Z, G, ρ, R, p⟩ := h
  unfold xCmpM at p
  cases e1 : asL ρ i with
  | none => simp only [e1] at p; exact False.elim p
  | some ds =>
    simp only [e1] at p
    obtain ⟨a, vs, ea, h1, r1⟩ := slot_ml R (asL_some e1)
    refine ⟨.ref a, ea, ?_⟩
    refine tG_imp (tG_bind (RVa := Rp X.K) ⟨Z, G, ρ, R, p⟩) fun v H1 ⟨Z1, G1, ρ1, d, R1, rd, p1⟩ => ?_
    cases e2 : asL ρ1 i with
    | none => simp only [e2] at p1; exact False.elim p1
    | some ds1 =>
      simp only [e2] at p1
      obtain ⟨a1, vs1, ea1, h2, r2⟩ := slot_ml R1 (asL_some e2)
      rw [ea] at ea1
      cases ea1
      cases e3 : g (.lst ds1) d with
      | none => simp only [e3] at p1; exact False.elim p1
      | some z =>
        cases z with
        | bl k =>
          simp only [e3] at p1
          exact hd G1 H1 _ _ _ _ _ Q (.lst h2 (r2.mono R1.le_at)) (rd.mono R1.le_at) e3 fun b eb => by
            cases eb
            exact p1.ok (.refl _) R1 (.bl k)
        | _ => simp only [e3] at p1; exact False.elim p1
theorem de_cmpM {i : Nat} {o : Expr} {op : CmpOp} {r : R2} {g : O2} (hx : PE X o (tVar i)) (ho : OpR X (compareOp op) r) (hd : DCmp X.K r g) (hb : DE X W b fb) (hm : behindInMarks op b = false) : DE X W (.Compare o [op] [b] pos) (xCmpM i g fb) :=
  PE.imp (pe_cmpR ho hx hb hm) fun σ H Q h => cmpM_run hd h
theorem dt_cmpM {i : Nat} {o : Expr} {op : CmpOp} {r : R2} {g : O2} (hx : PE X o (tVar i)) (ho : OpR X (compareOp op) r) (hd : DCmp X.K r g) (hb : DE X W b fb) (hm : behindInMarks op b = false) : DT X W (.Compare o [op] [b] pos) (asB (xCmpM i g fb)) :=
  PT.imp (pt_cmpR ho hx hb hm) fun σ H Q h => cmpM_run hd (tB_of h)
/-- len(x) -/
def xLenM (i : Nat) : FX D := fun ρ => match asL ρ i with
  | none => none
  | some ds => some (.ok (.int ds.length) ρ)
theorem de_lenM {i : Nat} {o : Expr} {p : Pos} (hx : PE X o (tVar i)) (hg : Gl X "len") (hm : X.mg "len" = none) (hs : starEach [o] X.env = (false, eval o X.env) :: starEach [] X.env := by rfl) (hpl : (backTo pos (starEach [] X.env)).any (·.1) = false := by rfl) : DE X W (.Call (.Name "len" p) [o] [] pos) (xLenM i) := by
  refine PE.imp (pe_callB call_len hg hm PySem.boot_len (pa_cons hx pa_nil hs) (by decide) (by decide) hs hpl) ?_
  rintro σ H Q ⟨Z, G, ρ, R, p⟩
  unfold xLenM at p
  cases e1 : asL ρ i with
  | none => simp only [e1] at p; exact False.elim p
  | some ds =>
    simp only [e1] at p
    obtain ⟨a, vs, ea, h1, r⟩ := slot_ml R (asL_some e1)
    exact ⟨.ref a, ea, _, _, rfl, .inl ⟨vs, SqL.of h1, rfl⟩, by rw [r.length]; exact p.ok (.refl _) R (.int _)⟩
theorem atI_rp {K : PySem.W.Frag} {G : Gh} {vs : List V} {ds : List D} {i : Int} {d : D} (r : RpA K G vs ds) (h : atI ds i = some d) : ∃ v, atI vs i = some v ∧ Rp K G v d := by
  unfold atI at h ⊢
  rw [r.length]
  cases e : ixN ds.length i with
  | none => rw [e] at h; cases h
  | some j =>
    rw [e] at h
    exact r.get h
/-- x[k] -/
def xIxM (i : Nat) (fb : FX D) : FX D := fun ρ => match asL ρ i with
  | none => none
  | some _ => xb (fb ρ) fun b ρ1 => match asL ρ1 i, b with
    | some ds, .int k => (match atI ds k with
      | some d => some (.ok d ρ1)
      | none => none)
    | _, _ => none
theorem de_ixM {i : Nat} {o : Expr} (hx : PE X o (tVar i)) (hb : DE X W b fb) (hs : PlainIx b := by exact fun _ _ => rfl) : DE X W (.Subscript o b pos) (xIxM i fb) := by
  refine PE.imp (pe_ix ix_list hx hb hs) ?_
  rintro σ H Q ⟨Z, G, ρ, R, p⟩
  unfold xIxM at p
  cases e1 : asL ρ i with
  | none => simp only [e1] at p; exact False.elim p
  | some ds =>
    simp only [e1] at p
    obtain ⟨a, vs, ea, h1, r1⟩ := slot_ml R (asL_some e1)
    refine ⟨.ref a, ea, ?_⟩
    refine tG_imp (tG_bind (RVa := Rp X.K) ⟨Z, G, ρ, R, p⟩) fun v H1 ⟨Z1, G1, ρ1, d, R1, rd, p1⟩ => ?_
    cases e2 : asL ρ1 i with
    | none => simp only [e2] at p1; exact False.elim p1
    | some ds1 =>
      obtain ⟨a1, vs1, ea1, h2, r2⟩ := slot_ml R1 (asL_some e2)
      rw [ea] at ea1
      cases ea1
      cases rd with
      | int k =>
        simp only [e2] at p1
        cases e3 : atI ds1 k with
        | none => simp only [e3] at p1; exact False.elim p1
        | some d =>
          simp only [e3] at p1
          obtain ⟨w, hw, rw'⟩ := atI_rp r2 e3
          exact ⟨a, vs1, k, w, rfl, rfl, SqL.of h2, hw, p1.ok (.refl _) R1 rw'⟩
      | _ => simp only [e2] at p1; exact False.elim p1
/-! ### subscripts, slices of data -/
def gIx : O2
  | .lst ds, .int i => atI ds i
  | .tup ds, .int i => atI ds i
  | .str z, .int i => if z.length ≤ smallN then (match atI z.cps.toList i with
      | some c => some (.str ⟨#[c]⟩)
      | none => none) else none
  | _, _ => none
theorem sOk_one {z : Str} {c : Nat} (h : sOk z = true) (hc : c ∈ z.cps.toList) : sOk ⟨#[c]⟩ = true := by
  unfold sOk PySem.PyData.strOk at *
  rw [Array.all_eq_true'] at h
  have := h c (by simpa using hc)
  simpa using this
theorem d_ix {K : PySem.W.Frag} : DOp K (rIx K) gIx := by
  intro Z G σ H ρ x y dx dy dz Q R rx ry e q
  unfold gIx at e
  split at e
  · cases rx with
    | lst s t =>
      cases ry
      obtain ⟨v, hv, rv⟩ := atI_rp t e
      exact .inl ⟨_, _, _, _, rfl, rfl, .inl (.inl (R.fz _ _ s)), hv, q _ _ G (.refl _) R rv⟩
  · cases rx with
    | tup s t =>
      cases ry
      obtain ⟨v, hv, rv⟩ := atI_rp t e
      exact .inr (.inl ⟨_, _, _, _, rfl, rfl, sqT_mono R.fz s, hv, q _ _ G (.refl _) R rv⟩)
  · split at e
    · rename_i hz
      cases rx with
      | str z hk =>
        cases ry
        split at e
        · rename_i c hc
          cases e
          refine .inr (.inr ⟨_, _, c, rfl, rfl, smallN_le hz, hc, q _ _ G (.refl _) R (.str _ (sOk_one hk ?_))⟩)
          obtain ⟨j, _, h2, _⟩ := atI_get hc
          exact List.mem_of_getElem? h2
        · cases e
    · cases e
  · cases e
def xIx (fa fb : FX D) : FX D := xBin gIx fa fb
theorem de_ix (ha : DE X W a fa) (hb : DE X W b fb) (hs : PlainIx b := by exact fun _ _ => rfl) : DE X W (.Subscript a b pos) (xIx fa fb) := by
  refine PE.imp (pe_ix ix_seq ha hb hs) ?_
  rintro σ H Q h
  refine tG_imp (tG_bind2 (RVa := Rp X.K) (RVb := Rp X.K) (fun l r => r.mono l) h) fun v H1 h1 => tG_imp h1 fun u H2 h2 => ?_
  obtain ⟨Z4, G4, ρ4, d3, d4, R4, r4, r5, p4⟩ := h2
  obtain ⟨dz, ez, q⟩ := ret_post p4
  exact d_ix _ _ _ _ _ _ _ _ _ _ _ R4 r4 r5 ez q
abbrev RO : Gh → Option Int → Option Int → Prop := fun _ a b => a = b
abbrev DO (X : Cx) (W : WX) (e : Option Expr) (f : FX (Option Int)) : Prop := PO X e (tG X.K W RO f)
def xNoPart : FX (Option Int) := fun ρ => some (.ok none ρ)
def xPart (f : FX D) : FX (Option Int) := fun ρ => xb (f ρ) fun d ρ1 => match d with
  | .int i => some (.ok (some i) ρ1)
  | _ => none
theorem PO.imp {X : Cx} {e : Option Expr} {t t' : TO} (h : PO X e t) (i : ∀ σ H Q, t' σ H Q → t σ H Q) : PO X e t' := ⟨fun pins s σ H Q I hq => h.run pins s σ H Q I (i σ H Q hq)⟩
theorem do_none : DO X W none xNoPart := PO.imp po_none fun σ H Q ⟨Z, G, ρ, R, p⟩ => p.ok (.refl _) R rfl
theorem do_some (h : DE X W e fa) : DO X W (some e) (xPart fa) := by
  refine PO.imp (po_some h) ?_
  rintro σ H Q h
  refine tG_imp (tG_bind (RVa := Rp X.K) h) fun v H1 ⟨Z, G, ρ, d, R, r, p⟩ => ?_
  cases r with
  | int i => exact ⟨i, rfl, p.ok (.refl _) R rfl⟩
  | _ => exact False.elim p
def cutD (ds : List D) (lo hi : Option Int) : List D := (ds.drop (HT.sIx ds.length 0 lo)).take (HT.sIx ds.length ds.length hi - HT.sIx ds.length 0 lo)
theorem cutD_whole {ds : List D} {lo hi : Option Int} (hw : HT.sIx ds.length 0 lo = 0 ∧ HT.sIx ds.length ds.length hi = ds.length) : cutD ds lo hi = ds := by
  unfold cutD
  rw [hw.1, hw.2, List.drop_zero, Nat.sub_zero, List.take_length]
theorem cut_rp {K : PySem.W.Frag} {G : Gh} {vs : List V} {ds : List D} {lo hi : Option Int} (r : RpA K G vs ds) : RpA K G (cutV vs lo hi) (cutD ds lo hi) := by
  unfold cutV cutD
  rw [r.length]
  exact (r.drop _).take _
def gSl (d : D) (lo hi : Option Int) : Option D := match d with
  | .lst ds => some (.lst (cutD ds lo hi))
  | .tup ds => some (.tup (cutD ds lo hi))
  | .str z => if z.length ≤ smallN then some (.str (cutS z lo hi)) else none
  | _ => none
theorem sOk_cut {z : Str} {lo hi : Option Int} (h : sOk z = true) : sOk (cutS z lo hi) = true := by
  unfold sOk PySem.PyData.strOk at *
  rw [Array.all_eq_true'] at h ⊢
  intro c hc
  unfold cutS at hc
  have hc' : c ∈ ((z.cps.toList.drop (HT.sIx z.length 0 lo)).take (HT.sIx z.length z.length hi - HT.sIx z.length 0 lo)) := by simpa using hc
  exact h c (by simpa using List.mem_of_mem_drop (List.mem_of_mem_take hc'))
def xSl (fa : FX D) (fl fh : FX (Option Int)) : FX D := fun ρ => xb (fa ρ) fun a ρ1 => xb (fl ρ1) fun l ρ2 => xb (fh ρ2) fun h ρ3 => ret (gSl a l h) ρ3
theorem de_sl {lo hi : Option Expr} {fl fh : FX (Option Int)} {p2 : Pos} (ha : DE X W a fa) (hl : DO X W lo fl) (hh : DO X W hi fh) : DE X W (.Subscript a (.Slice lo hi none p2) pos) (xSl fa fl fh) := by
  refine PE.imp (pe_slice (sl_list.or (sl_tupA.or sl_str)) ha hl hh) ?_
  rintro σ H Q h
  refine tG_imp (tG_bind2 (RVa := Rp X.K) (RVb := RO) (fun l r => r.mono l) h) fun v H1 h1 => tG_imp h1 fun l H2 h2 => ?_
  obtain ⟨Z, G, ρ, d, l', R, r1, r2, p⟩ := h2
  have r2 : l = l' := r2
  subst r2
  refine ⟨Z, G, ρ, R, ?_⟩
  cases e : fh ρ with
  | none => rw [e] at p; exact False.elim p
  | some o =>
    rw [e] at p
    cases o with
    | er x ρ1 => exact p
    | ok h ρ1 =>
      intro u H3 G3 l3 R3 ru
      have ru : u = h := ru
      subst ru
      obtain ⟨dz, ez, q⟩ := ret_post p
      have q : ∀ v H' G', G3.Le G' → Rel X.K Z G' σ H' ρ1 → Rp X.K G' v dz → Q v H' := fun v H' G' l' R' r' => q v H' G' (l3.trans l') R' r'
      have r1 := r1.mono l3
      unfold gSl at ez
      split at ez
      · cases r1 with
        | lst s t =>
          cases ez
          exact .inl ⟨_, _, rfl, .inl (.inl (R3.fz _ _ s)), mk_lst R3 (cut_rp t) q⟩
      · cases r1 with
        | @tup a xs ds s t =>
          cases ez
          refine .inr (.inl ⟨_, _, rfl, sqT_mono R3.fz s, fun hw => ?_, fun _ => mk_tup R3 (cut_rp t) q⟩)
          refine q _ _ G3 (.refl _) R3 ?_
          rw [t.length] at hw
          rw [cutD_whole hw]
          exact .tup s t
      · split at ez
        · rename_i hz
          cases r1 with
          | str z hk =>
            cases ez
            exact .inr (.inr ⟨_, rfl, smallN_le hz, q _ _ G3 (.refl _) R3 (.str _ (sOk_cut hk))⟩)
        · cases ez
      · cases ez
/-- xs[::-1] of a list -/
def gRev : O1
  | .lst ds => some (.lst ds.reverse)
  | _ => none
theorem de_rev {k : Nat} {p1 p2 p3 : Pos} (ha : DE X W a fa) : DE X W (.Subscript a (.Slice none none (some (.UnaryOp .USub (.Constant (.int 1) k p1) p2)) p3) pos) (xUn gRev fa) := by
  refine PE.imp (pe_revL ha) ?_
  rintro σ H Q h
  refine tG_imp (tG_bind (RVa := Rp X.K) h) fun v H1 ⟨Z, G, ρ, d, R, r, p⟩ => ?_
  obtain ⟨dz, ez, q⟩ := ret_post p
  unfold gRev at ez
  split at ez
  · cases r with
    | lst s t =>
      cases ez
      exact ⟨_, _, rfl, .inl (.inl (R.fz _ _ s)), mk_lst R t.reverse q⟩
  · cases ez
end
end PL
/-! PL6: the law's source. -/
namespace PL
open PySem PySem.Spec PyProof.Rows L2

section
variable {K : PySem.W.Frag} {Z : Hp} {G G' : Gh} {σ : L2.St} {H H' : Hp} {ρ : PS}
theorem Rel.srcAt (r : Rel K Z G σ H ρ) {a c : Addr} (e : G.sa = some (a, c)) : ∃ s, ρ.src = some s ∧ H a = some (.dK (srcKvs s c)) ∧ H c = some (.lst (s.cells.map V.int)) ∧ G.F a = none ∧ G.F c = none ∧ Z a = none ∧ Z c = none := by
  have sr := r.sr
  cases q : ρ.src with
  | none =>
    rw [q] at sr
    have sr : G.sa = none := sr
    rw [sr] at e; cases e
  | some s =>
    rw [q] at sr
    obtain ⟨a', c', e', h⟩ := sr
    rw [e'] at e
    cases e
    exact ⟨s, rfl, h⟩
/-- one of the source's objects is changed -/
theorem Rel.srcPut (r : Rel K Z G σ H ρ) {a c p : Addr} {s' : Src} {o : HO} (e : G.sa = some (a, c)) (hp : p = a ∨ p = c) (ha : upd H p o a = some (.dK (srcKvs s' c))) (hc : upd H p o c = some (.lst (s'.cells.map V.int))) : Rel K Z G σ (upd H p o) ⟨ρ.env, some s'⟩ := by
  obtain ⟨s, es, h1, h2, f1, f2, z1, z2⟩ := r.srcAt e
  have fp : G.F p = none := by rcases hp with rfl | rfl <;> assumption
  have zp : Z p = none := by rcases hp with rfl | rfl <;> assumption
  refine ⟨r.len, fun b u q => ?_, fun b u q => ?_, ⟨a, c, e, ha, hc, f1, f2, z1, z2⟩, fun i sl q => ?_, r.sep, r.oz, r.os⟩
  · have n : b ≠ p := by rintro rfl; rw [fp] at q; cases q
    rw [upd_ne n]; exact r.fz b u q
  · have n : b ≠ p := by rintro rfl; rw [zp] at q; cases q
    rw [upd_ne n]; exact r.zz b u q
  · obtain ⟨x, ex, z⟩ := r.en i sl q
    refine ⟨x, ex, ?_⟩
    cases sl with
    | val d => exact z
    | ml ds =>
      obtain ⟨b, ws, e1, k1, k2, z⟩ := z
      subst e1
      obtain ⟨n1, n2⟩ := r.os i b a c ⟨⟨_, q, rfl⟩, ex⟩ e
      have : b ≠ p := by rcases hp with rfl | rfl <;> assumption
      exact ⟨b, ws, rfl, by rw [upd_ne this]; exact k1, k2, z⟩
/-- the source is made -/
theorem Rel.srcNew {p q : Addr} {o : HO} {s : Src} (r : Rel K (upd (upd Z p o) q (.lst (s.cells.map V.int))) G σ H ρ) (zp : Z p = none) (zq : upd Z p o q = none) (ns : ρ.src = none) :
    Rel K Z ⟨G.F, some (p, q)⟩ σ (upd H p (.dK (srcKvs s q))) ⟨ρ.env, some s⟩ ∧ G.Le ⟨G.F, some (p, q)⟩ := by
  obtain ⟨R1, hq, fq, oq, _⟩ := r.outZ zq
  obtain ⟨R, hp, fp, op, _⟩ := R1.outZ zp
  have npq : q ≠ p := by rintro rfl; rw [upd_same] at zq; cases zq
  have zq' : Z q = none := by rw [upd_ne npq] at zq; exact zq
  have s0 : G.sa = none := by
    have sr := R.sr
    rw [ns] at sr
    exact sr
  have l : G.Le ⟨G.F, some (p, q)⟩ := ⟨fun _ _ h => h, fun x h => by rw [s0] at h; cases h⟩
  refine ⟨⟨R.len, fun b u e => ?_, fun b u e => ?_, ⟨p, q, rfl, upd_same, by rw [upd_ne npq]; exact hq, fp, fq, zp, zq'⟩, fun i sl e => ?_, R.sep, R.oz, fun i a c c' h e => ?_⟩, l⟩
  · have n : b ≠ p := by rintro rfl; have e' : G.F b = some u := e; rw [fp] at e'; cases e'
    rw [upd_ne n]; exact R.fz b u e
  · have n : b ≠ p := by rintro rfl; rw [zp] at e; cases e
    rw [upd_ne n]; exact R.zz b u e
  · obtain ⟨x, ex, z⟩ := R.en i sl e
    refine ⟨x, ex, ?_⟩
    cases sl with
    | val d =>
      obtain ⟨v, e1, r1⟩ := z
      exact ⟨v, e1, r1.mono l⟩
    | ml ds =>
      obtain ⟨a, ws, e1, k1, k2, z⟩ := z
      subst e1
      have n : a ≠ p := by rintro rfl; exact op i ⟨⟨_, e, rfl⟩, ex⟩
      exact ⟨a, ws, rfl, by rw [upd_ne n]; exact k1, k2, z.mono l⟩
  · cases e
    exact ⟨by rintro rfl; exact op i h, by rintro rfl; exact oq i h⟩
theorem put_left (s : Src) (c : Addr) (v : Int) : putK (srcKvs s c) (.inr "left") (.int v) = srcKvs { s with left := v } c := by
  unfold putK srcKvs
  rfl
theorem put_mixed (s : Src) (c : Addr) (v : Int) : putK (srcKvs s c) (.inr "mixed") (.int v) = srcKvs { s with mixed := v } c := by
  unfold putK srcKvs
  rfl
theorem put_turn (s : Src) (c : Addr) (v : Int) : putK (srcKvs s c) (.inr "turn") (.int v) = srcKvs { s with turn := v } c := by
  unfold putK srcKvs
  rfl
end
inductive Fld where
  | left | mixed | turn
def Fld.key : Fld → Str
  | .left => "left"
  | .mixed => "mixed"
  | .turn => "turn"
def Fld.get (f : Fld) (s : Src) : Int := match f with
  | .left => s.left
  | .mixed => s.mixed
  | .turn => s.turn
def Fld.put (f : Fld) (s : Src) (v : Int) : Src := match f with
  | .left => { s with left := v }
  | .mixed => { s with mixed := v }
  | .turn => { s with turn := v }
theorem val_fld (f : Fld) (s : Src) (c : Addr) : valV (srcKvs s c) (.inr f.key) = some (.int (f.get s)) := by
  cases f <;> rfl
theorem put_fld (f : Fld) (s : Src) (c : Addr) (v : Int) : putK (srcKvs s c) (.inr f.key) (.int v) = srcKvs (f.put s v) c := by
  cases f
  · exact put_left s c v
  · exact put_mixed s c v
  · exact put_turn s c v
theorem val_cells (s : Src) (c : Addr) : valV (srcKvs s c) (.inr "cells") = some (.ref c) := rfl
section
variable {X : Cx} {W : WX} {a b e o : Expr} {fa fb fe fo : FX D} {pos : Pos}
/-- source[field] -/
def xSrcGet (f : Fld) (fo : FX D) : FX D := fun ρ => xb (fo ρ) fun d ρ1 => match d, ρ1.src with
  | .src, some s => some (.ok (.int (f.get s)) ρ1)
  | _, _ => none
theorem de_srcGet {f : Fld} {i : Expr} (hu : X.A.units + 1 < cLine) (ho : DE X W o fo) (hi : PE X i (tC (.str f.key))) (hs : NoSl i := by exact fun _ _ => rfl) : DE X W (.Subscript o i pos) (xSrcGet f fo) := by
  refine PE.imp (pe_dget hu ho hi hs) ?_
  rintro σ H Q h
  refine tG_imp (tG_bind (RVa := Rp X.K) h) fun v H1 ⟨Z, G, ρ, d, R, r, p⟩ => ?_
  cases r with
  | @src a c sa =>
    obtain ⟨s, es, h1, h2, _⟩ := R.srcAt sa
    rw [es] at p
    have p : Post X.K W Z σ (Rp X.K) G Q (some (.ok (.int (f.get s)) ρ)) := p
    refine ⟨a, .int (f.get s), rfl, ?_, p.ok (.refl _) R (.int _)⟩
    rw [← val_fld f s c]
    exact DGet.k (k := .inr f.key) h1
  | _ => exact False.elim p
/-- source[field] = e -/
def xSrcPut (f : Fld) (fe fo : FX D) : FS := fun ρ => xbS (fe ρ) fun v ρ1 => xbS (fo ρ1) fun d ρ2 => match v, d, ρ2.src with
  | .int v, .src, some s => some (.nx ⟨ρ2.env, some (f.put s v)⟩)
  | _, _, _ => none
theorem tS_bind2 {A B α β : Type} {K : PySem.W.Frag} {RVa : Gh → A → α → Prop} {RVb : Gh → B → β → Prop} (mono : ∀ {G G' : Gh} {v : A} {d : α}, G.Le G' → RVa G v d → RVa G' v d) {fa : FX α} {fb : FX β} {k : α → β → PS → Option Out} {E : Ends} {σ : L2.St} {H : Hp}
    (h : tS K W (fun ρ => xbS (fa ρ) fun a ρ1 => xbS (fb ρ1) fun b ρ2 => k a b ρ2) E σ H) :
    tG K W RVa fa σ H (fun v H1 => tG K W RVb fb σ H1 (fun u H2 => ∃ Z G ρ a b, Rel K Z G σ H2 ρ ∧ RVa G v a ∧ RVb G u b ∧ PostS K W Z G E (k a b ρ))) := by
  refine tG_imp (tS_bind (RV := RVa) h) fun v H1 ⟨Z2, G2, ρ2, a2, R2, rv2, p2⟩ => ?_
  refine ⟨Z2, G2, ρ2, R2, ?_⟩
  cases e2 : fb ρ2 with
  | none => rw [e2] at p2; exact False.elim p2
  | some r =>
    rw [e2] at p2
    cases r with
    | ok b ρ3 => exact fun u H3 G3 l3 R3 ru => ⟨Z2, G3, ρ3, a2, b, R3, mono l3 rv2, ru, PostS.le l3 p2⟩
    | er x ρ3 => exact fun c d H3 G3 l3 R3 rx => p2 c d σ H3 G3 l3 R3 rx
theorem ds_srcPut {f : Fld} {i : Expr} {pos' : Pos} (hu : X.A.units + 1 < cLine) (ho : DE X W o fo) (hi : PE X i (tC (.str f.key))) (he : DE X W e fe) (hs : swapsWith e (some (.Subscript o i pos')) pos.line X.env = pure false := by rfl) :
    DS X W (.Assign [.Subscript o i pos'] e pos) (xSrcPut f fe fo) := by
  refine PS.imp (ps_dput hu ho hi he hs) ?_
  rintro E σ H h
  refine tG_imp (tS_bind2 (RVa := Rp X.K) (RVb := Rp X.K) (fun l r => r.mono l) h) fun v H1 h1 => tG_imp h1 fun u H2 ⟨Z, G, ρ, dv, d, R, rv, r, p⟩ => ?_
  cases rv with
  | int w =>
    cases r with
    | @src a c sa =>
      obtain ⟨s, es, h1, h2, _⟩ := R.srcAt sa
      rw [es] at p
      have p : PostS X.K W Z G E (some (.nx ⟨ρ.env, some (f.put s w)⟩)) := p
      refine ⟨a, _, rfl, DPut.k (k := .inr f.key) h1 (by show 4 < sizeLine; decide), ?_⟩
      rw [put_fld]
      have nac : c ≠ a := ne_of h2 h1 (by intro z; cases z)
      refine p _ _ G (.refl _) (R.srcPut sa (.inl rfl) upd_same ?_)
      rw [upd_ne nac]
      cases f <;> exact h2
    | _ => exact False.elim p
  | _ => cases r <;> exact False.elim p
/-- source["cells"].pop() -/
def xSrcPop (fo : FX D) : FX D := fun ρ => xb (fo ρ) fun d ρ1 => match d, ρ1.src with
  | .src, some s => (match s.cells[s.cells.length - 1]? with
    | some n => some (.ok (.int n) ⟨ρ1.env, some { s with cells := s.cells.dropLast }⟩)
    | none => none)
  | _, _ => none
theorem de_srcPop {i : Expr} {apos cpos : Pos} (hu : X.A.units + 1 < cLine) (ho : DE X W o fo) (hi : PE X i (tC (.str "cells"))) (hs : NoSl i := by exact fun _ _ => rfl)
    (hbase : attributeBase (.Subscript o i pos) "pop" X.env (eval (.Subscript o i pos) X.env) = eval (.Subscript o i pos) X.env := by rfl) (hline : (apos.endLine == cpos.line) = true := by rfl) :
    DE X W (.Call (.Attribute (.Subscript o i pos) "pop" apos) [] [] cpos) (xSrcPop fo) := by
  refine PE.imp (pe_bm0 PySem.F.plainAttrs_list PySem.F.slot_list_pop PySem.F.type_list_pop mt_pop (pe_dget hu ho hi hs) hbase hline) ?_
  rintro σ H Q h
  refine tG_imp (tG_bind (RVa := Rp X.K) h) fun v H1 ⟨Z, G, ρ, d, R, r, p⟩ => ?_
  cases r with
  | @src a c sa =>
    obtain ⟨s, es, h1, h2, _⟩ := R.srcAt sa
    rw [es] at p
    have p : Post X.K W Z σ (Rp X.K) G Q (match s.cells[s.cells.length - 1]? with
      | some n => some (.ok (.int n) ⟨ρ.env, some { s with cells := s.cells.dropLast }⟩)
      | none => none) := p
    refine ⟨a, .ref c, rfl, DGet.k (k := .inr "cells") h1, .inl ⟨rfl, _, SqL.of h2⟩, ?_⟩
    cases e : s.cells[s.cells.length - 1]? with
    | none => rw [e] at p; exact False.elim p
    | some n =>
      rw [e] at p
      have nac : c ≠ a := ne_of h2 h1 (by intro z; cases z)
      refine ⟨c, _, .int n, rfl, rfl, h2, by rw [List.length_map, List.getElem?_map, e]; rfl, ?_⟩
      refine p.ok (.refl _) (R.srcPut sa (.inr rfl) (by rw [upd_ne nac.symm]; exact h1) ?_) (.int _)
      rw [upd_same, List.map_dropLast]
  | _ => exact False.elim p
/-- len(source["cells"]) -/
def xSrcLen (fo : FX D) : FX D := fun ρ => xb (fo ρ) fun d ρ1 => match d, ρ1.src with
  | .src, some s => some (.ok (.int s.cells.length) ρ1)
  | _, _ => none
theorem de_srcLen {i : Expr} {p cpos : Pos} (hu : X.A.units + 1 < cLine) (hg : Gl X "len") (hm : X.mg "len" = none) (ho : DE X W o fo) (hi : PE X i (tC (.str "cells"))) (hs : NoSl i := by exact fun _ _ => rfl)
    (hst : starEach [.Subscript o i pos] X.env = (false, eval (.Subscript o i pos) X.env) :: starEach [] X.env := by rfl) (hpl : (backTo cpos (starEach [] X.env)).any (·.1) = false := by rfl) : DE X W (.Call (.Name "len" p) [.Subscript o i pos] [] cpos) (xSrcLen fo) := by
  refine PE.imp (pe_callB call_len hg hm PySem.boot_len (pa_cons (pe_dget hu ho hi hs) pa_nil hst) (by decide) (by decide) hst hpl) ?_
  rintro σ H Q h
  refine tG_imp (tG_bind (RVa := Rp X.K) h) fun v H1 ⟨Z, G, ρ, d, R, r, p⟩ => ?_
  cases r with
  | @src a c sa =>
    obtain ⟨s, es, h1, h2, _⟩ := R.srcAt sa
    rw [es] at p
    have p : Post X.K W Z σ (Rp X.K) G Q (some (.ok (.int s.cells.length) ρ)) := p
    refine ⟨a, .ref c, rfl, DGet.k (k := .inr "cells") h1, _, _, rfl, .inl ⟨_, SqL.of h2, rfl⟩, ?_⟩
    rw [List.length_map]
    exact p.ok (.refl _) R (.int _)
  | _ => exact False.elim p
/-- the display of a new source -/
def intsOf : List D → Option (List Int)
  | [] => some []
  | .int n :: ds => (intsOf ds).map (n :: ·)
  | _ :: _ => none
theorem intsOf_rp {K : PySem.W.Frag} {G : Gh} : ∀ {ds : List D} {vs : List V} {ns : List Int}, intsOf ds = some ns → RpA K G vs ds → vs = ns.map V.int
  | [], _, _, h, .nil => by cases h; rfl
  | .int n :: ds, _, ns, h, .cons r t => by
    unfold intsOf at h
    cases e : intsOf ds with
    | none => rw [e] at h; cases h
    | some ms =>
      rw [e] at h
      cases h
      cases r
      rw [intsOf_rp e t]
      rfl
  | .non :: _, _, _, h, _ => by cases h
  | .bl _ :: _, _, _, h, _ => by cases h
  | .str _ :: _, _, _, h, _ => by cases h
  | .lst _ :: _, _, _, h, _ => by cases h
  | .tup _ :: _, _, _, h, _ => by cases h
  | .src :: _, _, _, h, _ => by cases h
  | .scr _ :: _, _, _, h, _ => by cases h
def mkSrc (ds : List D) (m : D) (ρ : PS) : Option (Rx D) := match m, ρ.src, intsOf ds with
  | .int m, none, some ns => some (.ok .src ⟨ρ.env, some ⟨ns.reverse, 1, m, 0⟩⟩)
  | _, _, _ => none
theorem mkSrc_post {K : PySem.W.Frag} {W : WX} {Z : Hp} {σ : L2.St} {G : Gh} {Q : VK} {ds : List D} {d : D} {ρ : PS} (p : Post K W Z σ (Rp K) G Q (mkSrc ds d ρ)) :
    ∃ m ns, d = .int m ∧ ρ.src = none ∧ intsOf ds = some ns ∧ Post K W Z σ (Rp K) G Q (some (.ok .src ⟨ρ.env, some ⟨ns.reverse, 1, m, 0⟩⟩)) := by
  unfold mkSrc at p
  split at p
  · rename_i m ns e3 e4
    exact ⟨m, ns, rfl, e3, e4, p⟩
  · exact False.elim p
def xSrcNew (fc fm : FX D) : FX D := fun ρ => xb (fc ρ) fun c ρ1 => match c with
  | .lst ds => xb (fm ρ1) (mkSrc ds)
  | _ => none
theorem de_srcNew {em k1 k2 k3 k4 c2 c4 : Expr} {fc fm : FX D} {k : Nat} {q1 q2 q3 q4 : Pos} (hc : DE X W e fc) (hm : DE X W em fm) (h1 : PE X k1 (tC (.str "cells"))) (h2 : PE X k2 (tC (.str "left"))) (h3 : PE X k3 (tC (.str "mixed"))) (h4 : PE X k4 (tC (.str "turn"))) (v2 : PE X c2 (tC (.int 1))) (v4 : PE X c4 (tC (.int 0))) :
    DE X W (.Dict [some k1, some k2, some k3, some k4] [.Subscript e (.Slice none none (some (.UnaryOp .USub (.Constant (.int 1) k q1) q2)) q3) q4, c2, em, c4] pos) (xSrcNew fc fm) := by
  refine PE.imp (pe_disp (pps_cons h1 (pe_revL hc) (pps_cons h2 v2 (pps_cons h3 hm (pps_cons h4 v4 pps_nil)))) rfl rfl (fun z => by cases z) (by show 4 ≤ 15; decide)) ?_
  rintro σ H Q ⟨Z, G, ρ, R, p⟩ P hP
  obtain ⟨R1, zP⟩ := R.newZ hP (.dK [])
  show tG X.K W (Rp X.K) fc σ (upd H P (.dK [])) _
  refine ⟨upd Z P (.dK []), G, ρ, R1, ?_⟩
  unfold xSrcNew at p
  cases e1 : fc ρ with
  | none => rw [e1] at p; exact False.elim p
  | some r =>
    rw [e1] at p
    cases r with
    | er x ρ1 => exact fun c d H1 G1 l1 R2 rx => p c d H1 G1 l1 (R2.outZ zP).1 rx
    | ok dc ρ1 =>
      intro v H1 G1 l1 R2 rv
      cases rv with
      | @lst a xs ds s t =>
        have p : Post X.K W Z σ (Rp X.K) G Q (xb (fm ρ1) (mkSrc ds)) := p
        refine ⟨a, xs, rfl, .inl (.inl (R2.fz _ _ s)), fun q hq => ?_⟩
        obtain ⟨R3, zq⟩ := R2.newZ hq (.lst xs.reverse)
        show tG X.K W (Rp X.K) fm σ (upd H1 q (.lst xs.reverse)) _
        refine ⟨_, G1, ρ1, R3, ?_⟩
        cases e2 : fm ρ1 with
        | none => rw [e2] at p; exact False.elim p
        | some r =>
          rw [e2] at p
          cases r with
          | er x ρ2 => exact fun c d H2 G2 l2 R4 rx => p c d H2 G2 (l1.trans l2) ((R4.outZ zq).1.outZ zP).1 rx
          | ok dm ρ2 =>
            have p : Post X.K W Z σ (Rp X.K) G Q (mkSrc ds dm ρ2) := p
            intro w H2 G2 l2 R4 rw'
            obtain ⟨m, ns, rfl, e3, e4, p⟩ := mkSrc_post p
            have ex : xs = ns.map V.int := intsOf_rp e4 t
            subst ex
            cases rw'
            obtain ⟨R5, _⟩ := R4.outZ zq
            have hp2 := (R5.outZ zP).2.1
            refine ⟨hp2, [(.inr "cells", .ref q), (.inr "left", .int 1), (.inr "mixed", .int m), (.inr "turn", .int 0)], rfl, by show 4 ≤ 15; decide, ?_⟩
            rw [← List.map_reverse] at R4
            obtain ⟨R6, l6⟩ := Rel.srcNew (s := ⟨ns.reverse, 1, m, 0⟩) R4 zP zq e3
            exact p _ _ _ ((l1.trans l2).trans l6) R6 (.src rfl)
      | _ => exact False.elim p
end
end PL
/-! PL7: the script, comprehensions. -/
namespace PL
open PySem PySem.Spec PyProof.Rows L2

section
variable {X : Cx} {W : WX} {a b e o : Expr} {fa fb fe fo : FX D} {pos : Pos}
/-- the script, walked -/
def xScrOf (f : FX D) : FX (List D) := fun ρ => xb (f ρ) fun d ρ1 => match d with
  | .scr ns => some (.ok (ns.map D.int) ρ1)
  | _ => none
theorem gives_scr {K : PySem.W.Frag} {G : Gh} {a : Addr} {ns : List Int} (s : SqL K G.F a (ns.map V.int)) : Gives K G (Itl K a) (ns.map D.int) := by
  intro G' Z σ H ρ l R i
  have s' : SqL K H a (ns.map V.int) := sqL_mono (fun b o e => R.fz b o (l.f b o e)) s
  refine ⟨fun hi => ⟨_, s', by simpa using hi⟩, fun d hd => ?_⟩
  rw [List.getElem?_map] at hd
  cases e : ns[i]? with
  | none => rw [e] at hd; cases hd
  | some n =>
    rw [e] at hd
    cases hd
    have hv : (ns.map V.int)[i]? = some (.int n) := by rw [List.getElem?_map, e]; rfl
    refine ⟨⟨_, _, s', hv⟩, fun x H' ⟨e, y⟩ => ?_⟩
    subst e
    have := y _ s'
    rw [hv] at this
    cases this
    exact ⟨G', .refl _, R, .int _⟩
theorem di_scr {tg l : Expr} {fl : FX D} (hl : DE X W l fl) : DI X W tg l (xScrOf fl) := by
  refine PI.imp (pi_list hl) ?_
  rintro σ H Q h
  refine tG_imp (tG_bind (RVa := Rp X.K) h) fun v H1 ⟨Z, G, ρ, d, R, r, p⟩ => ?_
  cases r with
  | @scr a ns s => exact ⟨a, rfl, ⟨_, sqL_mono R.fz s⟩, p.ok (.refl _) R (gives_scr s)⟩
  | _ => exact False.elim p
/-! ### comprehensions -/
def wipeE : List Nat → List (Option Sl) → List (Option Sl)
  | [], e => e
  | v :: vs, e => (wipeE vs e).set v none
def wipeP (vs : List Nat) (ρ : PS) : PS := ⟨wipeE vs ρ.env, ρ.src⟩
/-- the slots at vs as they were -/
def backE (e0 : List (Option Sl)) : List Nat → List (Option Sl) → List (Option Sl)
  | [], e => e
  | v :: vs, e => (backE e0 vs e).set v (e0[v]?.getD none)
def backP (vs : List Nat) (ρ0 ρ : PS) : PS := ⟨backE ρ0.env vs ρ.env, ρ.src⟩
def noMl (vs : List Nat) (ρ : PS) : Bool := vs.all fun v => match ρ.env[v]? with
  | some (some (.ml _)) => false
  | _ => true
theorem wipeE_len : ∀ (vs : List Nat) (e : List (Option Sl)), (wipeE vs e).length = e.length
  | [], _ => rfl
  | v :: vs, e => by unfold wipeE; rw [List.length_set, wipeE_len vs e]
theorem backE_len (e0 : List (Option Sl)) : ∀ (vs : List Nat) (e : List (Option Sl)), (backE e0 vs e).length = e.length
  | [], _ => rfl
  | v :: vs, e => by unfold backE; rw [List.length_set, backE_len e0 vs e]
theorem wipeE_some : ∀ {vs : List Nat} {e : List (Option Sl)} {i : Nat} {sl : Sl}, (wipeE vs e)[i]? = some (some sl) → e[i]? = some (some sl) ∧ i ∉ vs
  | [], _, _, _, h => ⟨h, by simp⟩
  | v :: vs, e, i, sl, h => by
    unfold wipeE at h
    by_cases hi : v = i
    · subst hi
      rw [List.getElem?_set, if_pos rfl] at h
      split at h <;> cases h
    · rw [List.getElem?_set_ne hi] at h
      obtain ⟨h1, h2⟩ := wipeE_some h
      exact ⟨h1, by simp only [List.mem_cons, not_or]; exact ⟨fun e => hi e.symm, h2⟩⟩
theorem backE_in {e0 : List (Option Sl)} : ∀ {vs : List Nat} {e : List (Option Sl)} {i : Nat}, e0.length = e.length → i ∈ vs → (backE e0 vs e)[i]? = e0[i]?
  | [], _, _, _, h => by simp at h
  | v :: vs, e, i, hl, h => by
    unfold backE
    by_cases hi : v = i
    · subst hi
      by_cases hv : v < e0.length
      · rw [List.getElem?_set_self (by rw [backE_len]; omega), List.getElem?_eq_getElem hv]; rfl
      · rw [List.getElem?_eq_none (by rw [List.length_set, backE_len]; omega), List.getElem?_eq_none (by omega)]
    · rw [List.getElem?_set_ne hi]
      exact backE_in hl ((List.mem_cons.mp h).resolve_left fun e => hi e.symm)
theorem backE_out {e0 : List (Option Sl)} : ∀ {vs : List Nat} {e : List (Option Sl)} {i : Nat}, i ∉ vs → (backE e0 vs e)[i]? = e[i]?
  | [], _, _, _ => rfl
  | v :: vs, e, i, h => by
    simp only [List.mem_cons, not_or] at h
    unfold backE
    rw [List.getElem?_set_ne (fun e => h.1 e.symm)]
    exact backE_out h.2
section
variable {K : PySem.W.Frag} {Z : Hp} {G G' : Gh} {σ σ' : L2.St} {H H' : Hp} {ρ ρ' : PS} {vs : List Nat}
theorem Rel.wiped (r : Rel K Z G σ H ρ) : Rel K Z G (wipe σ vs) H (wipeP vs ρ) := by
  have ow : ∀ {i a}, Own (wipe σ vs) (wipeP vs ρ) i a → Own σ ρ i a := fun {i a} ⟨⟨sl, e, m⟩, s⟩ => ⟨⟨sl, (wipeE_some e).1, m⟩, (wipe_some s).1⟩
  refine ⟨by rw [wipe_length]; show _ = (wipeE vs ρ.env).length; rw [wipeE_len]; exact r.len, r.fz, r.zz, r.sr, fun i sl e => ?_, fun i j a h1 h2 => r.sep i j a (ow h1) (ow h2), fun i a h => r.oz i a (ow h), fun i a p c h => r.os i a p c (ow h)⟩
  obtain ⟨e1, hi⟩ := wipeE_some (show (wipeE vs ρ.env)[i]? = some (some sl) from e)
  obtain ⟨x, ex, z⟩ := r.en i sl e1
  exact ⟨x, by rw [wipe_out hi]; exact ex, z⟩
/-- behind a turn: the slots of the block's own names as they were -/
theorem Rel.back (r0 : Rel K Z G σ H ρ) (nm : noMl vs ρ = true) (l : G.Le G') (r : Rel K Z G' σ' H' ρ') (hw : wipe σ' vs = wipe σ vs) : Rel K Z G' σ H' (backP vs ρ ρ') := by
  have hl : σ'.length = σ.length := by rw [← wipe_length σ' vs, hw, wipe_length]
  have hl2 : ρ.env.length = ρ'.env.length := by rw [← r0.len, ← r.len, hl]
  have out : ∀ {i}, i ∉ vs → σ[i]? = σ'[i]? := fun {i} hi => by rw [← wipe_out (σ := σ) hi, ← hw, wipe_out hi]
  have isv : ∀ {i sl}, i ∈ vs → ρ.env[i]? = some (some sl) → ∃ d, sl = .val d := fun {i sl} hi e => by
    have := List.all_eq_true.mp nm i hi
    rw [e] at this
    cases sl with
    | val d => exact ⟨d, rfl⟩
    | ml ds => cases this
  have ow : ∀ {i a}, Own σ (backP vs ρ ρ') i a → Own σ' ρ' i a := fun {i a} ⟨⟨sl, e, m⟩, s⟩ => by
    have e : (backE ρ.env vs ρ'.env)[i]? = some (some sl) := e
    by_cases hi : i ∈ vs
    · rw [backE_in hl2 hi] at e
      obtain ⟨d, rfl⟩ := isv hi e
      cases m
    · rw [backE_out hi] at e
      rw [out hi] at s
      exact ⟨⟨sl, e, m⟩, s⟩
  refine ⟨by show σ.length = (backE ρ.env vs ρ'.env).length; rw [backE_len, ← hl2]; exact r0.len, r.fz, r.zz, r.sr, fun i sl e => ?_, fun i j a h1 h2 => r.sep i j a (ow h1) (ow h2), fun i a h => r.oz i a (ow h), fun i a p c h => r.os i a p c (ow h)⟩
  have e : (backE ρ.env vs ρ'.env)[i]? = some (some sl) := e
  by_cases hi : i ∈ vs
  · rw [backE_in hl2 hi] at e
    obtain ⟨d, rfl⟩ := isv hi e
    obtain ⟨x, ex, v, e1, rv⟩ := r0.en i _ e
    exact ⟨x, ex, v, e1, rv.mono l⟩
  · rw [backE_out hi] at e
    obtain ⟨x, ex, z⟩ := r.en i sl e
    exact ⟨x, by rw [out hi]; exact ex, z⟩
end
/-- a target whose names are the block's own -/
def PostC (K : PySem.W.Frag) (vs : List Nat) (Z : Hp) (G : Gh) (σ : L2.St) (Q : L2.St → Hp → Prop) : Option PS → Prop
  | none => False
  | some ρ' => ∀ σ' H' G', wipe σ' vs = wipe σ vs → G.Le G' → Rel K Z G' σ' H' ρ' → Q σ' H'
def tGc (K : PySem.W.Frag) (vs : List Nat) (f : FG) : TG := fun v σ H Q => ∃ Z G ρ d, Rel K Z G σ H ρ ∧ Rp K G v d ∧ PostC K vs Z G σ Q (f d ρ)
def tGcs (K : PySem.W.Frag) (vs : List Nat) (f : FGs) : TGs := fun us σ H Q => ∃ Z G ρ ds, Rel K Z G σ H ρ ∧ RpA K G us ds ∧ PostC K vs Z G σ Q (f ds ρ)
abbrev DGc (X : Cx) (vs : List Nat) (tg : Expr) (f : FG) : Prop := PG X tg (tGc X.K vs f)
abbrev DGcs (X : Cx) (vs : List Nat) (tg : List Expr) (f : FGs) : Prop := PGs X tg (tGcs X.K vs f)
theorem wipe_setIn {σ : L2.St} {i : Nat} {x : Option V} : ∀ {vs : List Nat}, i ∈ vs → wipe (σ.set i x) vs = wipe σ vs
  | [], h => by simp at h
  | v :: vs, h => by
    unfold wipe
    by_cases hv : i ∈ vs
    · rw [wipe_setIn hv]
    · have e : v = i := ((List.mem_cons.mp h).resolve_right hv).symm
      subst e
      have : ∀ (vs : List Nat) (σ : L2.St), v ∉ vs → wipe (σ.set v x) vs = (wipe σ vs).set v x := by
        intro vs
        induction vs with
        | nil => intro σ _; rfl
        | cons u us ih =>
          intro σ hu
          simp only [List.mem_cons, not_or] at hu
          unfold wipe
          rw [ih σ hu.2, List.set_comm _ _ hu.1]
      rw [this vs σ hv, List.set_set]
theorem dgc_name {vs : List Nat} {i : Nat} {tg : Expr} (h : PG X tg (gName i)) (hi : i ∈ vs) : DGc X vs tg (gN i) := by
  refine PG.imp h ?_
  rintro v σ H Q ⟨Z, G, ρ, d, R, r, p⟩
  exact p _ _ G (wipe_setIn hi) (.refl _) (R.setVal r)
theorem dgcs_nil {vs : List Nat} : DGcs X vs [] gsNil := by
  refine PGs.imp pgs_nil ?_
  rintro v σ H Q ⟨Z, G, ρ, d, R, r, p⟩
  cases r with
  | nil => exact ⟨rfl, p _ _ G rfl (.refl _) R⟩
  | cons a b => exact False.elim p
theorem dgcs_cons {vs : List Nat} {tg : Expr} {tgs : List Expr} {fg : FG} {fgs : FGs} (h1 : DGc X vs tg fg) (h2 : DGcs X vs tgs fgs)
    (hs : (assignEach (tg :: tgs) X.env).map (·.2) = assign tg X.env :: (assignEach tgs X.env).map (·.2) := by rfl) : DGcs X vs (tg :: tgs) (gsCons fg fgs) := by
  refine PGs.imp (pgs_cons h1 h2 hs) ?_
  rintro v σ H Q ⟨Z, G, ρ, d, R, r, p⟩
  cases r with
  | nil => exact False.elim p
  | @cons v us d ds a b =>
    refine ⟨v, us, rfl, Z, G, ρ, d, R, a, ?_⟩
    unfold gsCons at p
    cases e : fg d ρ with
    | none => simp only [e] at p; exact False.elim p
    | some ρ1 =>
      simp only [e] at p
      intro σ1 H1 G1 w1 l1 R1
      refine ⟨Z, G1, ρ1, ds, R1, b.mono l1, ?_⟩
      cases e2 : fgs ds ρ1 with
      | none => rw [e2] at p; exact False.elim p
      | some ρ2 =>
        rw [e2] at p
        exact fun σ2 H2 G2 w2 l2 R2 => p σ2 H2 G2 (w2.trans w1) (l1.trans l2) R2
theorem dgc_tup {vs : List Nat} {tgs : List Expr} {k : Nat} {fgs : FGs} {n : Nat} (hc : X.calm = true) (h : DGcs X vs tgs fgs)
    (hn : (assignEach tgs X.env).length = n := by rfl) (hst : (assignEach tgs X.env).findIdx? (·.1) = none := by rfl) : DGc X vs (.Tuple tgs k pos) (gTp n fgs) := by
  refine PG.imp (pg_tup hc h hn hst) ?_
  rintro v σ H Q ⟨Z, G, ρ, d, R, r, p⟩
  cases r with
  | @tup a xs ds s t =>
    unfold gTp at p
    by_cases hl : ds.length = n
    · simp only [if_pos hl] at p
      exact ⟨a, xs, rfl, sqT_mono R.fz s, by rw [t.length]; exact hl, Z, G, ρ, ds, R, t, p⟩
    · simp only [if_neg hl] at p
      exact False.elim p
  | _ => exact False.elim p
abbrev W0 : WX := fun _ _ _ _ => False
abbrev DTs (X : Cx) (W : WX) (ifs : List Expr) (f : FX Bool) : Prop := PTs X ifs (tG X.K W RB f)
def xYes : FX Bool := fun ρ => some (.ok true ρ)
theorem PTs.imp {X : Cx} {ifs : List Expr} {t t' : TT} (h : PTs X ifs t) (i : ∀ σ H Q, t' σ H Q → t σ H Q) : PTs X ifs t' := ⟨fun pins s σ H Q I hq => h.run pins s σ H Q I (i σ H Q hq)⟩
theorem dts_nil : DTs X W [] xYes := PTs.imp pts_nil fun σ H Q ⟨Z, G, ρ, R, p⟩ => p.ok (.refl _) R rfl
theorem dts_one {c : Expr} {fc : FX Bool} (h : DT X W c fc) : DTs X W [c] fc := pts_one h
def xCompL (vs : List Nat) (g : FG) (t : FX Bool) (f : FX D) : List D → List D → PS → Option (List D × PS)
  | [], acc, ρ => some (acc, ρ)
  | d :: ds, acc, ρ => match g d (wipeP vs ρ) with
    | none => none
    | some ρ1 => match t ρ1 with
      | some (.ok true ρ2) => (match f ρ2 with
        | some (.ok e ρ3) => if acc.length < smallN then xCompL vs g t f ds (acc ++ [e]) (backP vs ρ ρ3) else none
        | _ => none)
      | some (.ok false ρ2) => xCompL vs g t f ds acc (backP vs ρ ρ2)
      | _ => none
theorem backP_noMl {vs : List Nat} {ρ0 ρ : PS} (hl : ρ0.env.length = ρ.env.length) (h : noMl vs ρ0 = true) : noMl vs (backP vs ρ0 ρ) = true := by
  refine List.all_eq_true.mpr fun v hv => ?_
  have := List.all_eq_true.mp h v hv
  show (match (backE ρ0.env vs ρ.env)[v]? with | some (some (.ml _)) => false | _ => true) = true
  rw [backE_in hl hv]
  exact this
def xComp (fi : FX (List D)) (vs : List Nat) (g : FG) (t : FX Bool) (f : FX D) : FX D := fun ρ => xb (fi ρ) fun ds ρ1 => if noMl vs ρ1 = true then match xCompL vs g t f ds [] ρ1 with
    | none => none
    | some (acc, ρ2) => some (.ok (.lst acc) ρ2)
  else none
theorem comp_run {fi : FX (List D)} {vs : List Nat} {fg : FG} {ft : FX Bool} {fe : FX D} {σ : L2.St} {H : Hp} {Q : VK} (h : tG X.K W (Rp X.K) (xComp fi vs fg ft fe) σ H Q) :
    tLc (tG X.K W (Gives X.K) fi) (tGc X.K vs fg) (tG X.K W0 RB ft) (tG X.K W0 (Rp X.K) fe) vs σ H Q := by
  refine tG_imp (tG_bind (RVa := Gives X.K) h) fun J H1 ⟨Z, G, ρ, ds, R, gv, p⟩ => ?_
  by_cases nm : noMl vs ρ = true
  case neg => rw [if_neg nm] at p; exact False.elim p
  rw [if_pos nm] at p
  cases e : xCompL vs fg ft fe ds [] ρ with
  | none => rw [e] at p; exact False.elim p
  | some out =>
    obtain ⟨accE, ρE⟩ := out
    rw [e] at p
    have p : Post X.K W Z σ (Rp X.K) G Q (some (.ok (.lst accE) ρE)) := p
    intro C hC
    obtain ⟨R1, zC⟩ := R.newZ hC (.lst [])
    refine ⟨fun i m H => m = ds.length - i ∧ i ≤ ds.length ∧ ∃ (G' : Gh) (ρ' : PS) (us : List V) (acc : List D), G.Le G' ∧ Rel X.K (upd Z C (.lst us)) G' σ H ρ' ∧ RpA X.K G' us acc ∧ noMl vs ρ' = true ∧ xCompL vs fg ft fe (ds.drop i) acc ρ' = some (accE, ρE),
      ⟨ds.length, by simp, Nat.zero_le _, G, ρ, [], [], .refl _, R1, .nil, nm, e⟩, ?_⟩
    rintro i m H2 ⟨rfl, hi, G2, ρ2, us, acc, l2, R2, ra, nm2, e2⟩
    obtain ⟨g1, g2⟩ := gv G2 (upd Z C (.lst us)) σ H2 ρ2 l2 R2 i
    by_cases hlt : i < ds.length
    · obtain ⟨go, yl⟩ := g2 ds[i] (List.getElem?_eq_getElem hlt)
      rw [List.drop_eq_getElem_cons hlt] at e2
      unfold xCompL at e2
      refine .inr ⟨go, fun H => ∃ (G' : Gh) (ρ' : PS) (us : List V) (acc : List D), G.Le G' ∧ Rel X.K (upd Z C (.lst us)) G' σ H ρ' ∧ RpA X.K G' us acc ∧ noMl vs ρ' = true ∧ xCompL vs fg ft fe (ds.drop (i + 1)) acc ρ' = some (accE, ρE),
        fun H' h => ⟨ds.length - (i + 1), by omega, rfl, hlt, h⟩, fun x H3 y => ?_⟩
      obtain ⟨G3, l3, R3, r3⟩ := yl x H3 y
      have len3 : ρ2.env.length = σ.length := R2.len.symm
      refine ⟨_, G3, wipeP vs ρ2, ds[i], R3.wiped, r3, ?_⟩
      cases e3 : fg ds[i] (wipeP vs ρ2) with
      | none => simp only [e3] at e2; cases e2
      | some ρ3 =>
        simp only [e3] at e2
        intro σ4 H4 G4 w4 l4 R4
        have w4' : wipe σ4 vs = wipe σ vs := by
          have idem : ∀ (vs : List Nat) (σ : L2.St), wipe (wipe σ vs) vs = wipe σ vs := by
            intro vs σ
            apply List.ext_getElem?
            intro j
            by_cases hj : j ∈ vs
            · have hw : ∀ (σ : L2.St), (wipe σ vs)[j]? = if j < σ.length then some none else none := by
                intro σ
                have : ∀ (us : List Nat), j ∈ us → (wipe σ us)[j]? = if j < σ.length then some none else none := by
                  intro us
                  induction us with
                  | nil => intro h; simp at h
                  | cons u us ih =>
                    intro h
                    unfold wipe
                    by_cases hu : u = j
                    · subst hu
                      rw [List.getElem?_set, if_pos rfl, wipe_length]
                    · rw [List.getElem?_set_ne hu]
                      exact ih ((List.mem_cons.mp h).resolve_left fun e => hu e.symm)
                exact this vs hj
              rw [hw, hw, wipe_length]
            · rw [wipe_out hj]
          rw [w4, idem]
        refine ⟨w4', ?_⟩
        refine ⟨_, G4, ρ3, R4, ?_⟩
        cases e4 : ft ρ3 with
        | none => simp only [e4] at e2; cases e2
        | some o4 =>
          cases o4 with
          | er x ρ4 => simp only [e4] at e2; cases e2
          | ok b4 ρ4 =>
            intro b H5 G5 l5 R5 rb
            have rb : b = b4 := rb
            subst rb
            cases b with
            | false =>
              simp only [e4] at e2
              rw [if_neg Bool.false_ne_true]
              have Rb := R2.back nm2 ((l3.trans l4).trans l5) R5 w4'
              have hl : ρ2.env.length = ρ4.env.length := by
                have := R5.len
                rw [← this, ← wipe_length σ4 vs, w4', wipe_length, R2.len]
              exact ⟨G5, _, us, acc, ((l2.trans l3).trans l4).trans l5, Rb, ra.mono ((l3.trans l4).trans l5), backP_noMl hl nm2, e2⟩
            | true =>
              simp only [e4] at e2
              rw [if_pos rfl]
              refine ⟨_, G5, ρ4, R5, ?_⟩
              cases e5 : fe ρ4 with
              | none => simp only [e5] at e2; cases e2
              | some o5 =>
                cases o5 with
                | er x ρ5 => simp only [e5] at e2; cases e2
                | ok d5 ρ5 =>
                  simp only [e5] at e2
                  intro v H6 G6 l6 R6 rv
                  by_cases hz : acc.length < smallN
                  case neg => rw [if_neg hz] at e2; cases e2
                  rw [if_pos hz] at e2
                  have lt := ((l3.trans l4).trans l5).trans l6
                  have Rb := R2.back nm2 lt R6 w4'
                  obtain ⟨_, hC6, _⟩ := Rb.outZ zC
                  refine ⟨us, hC6, by rw [ra.length]; exact Nat.lt_of_lt_of_le hz (by decide), ?_⟩
                  have hl : ρ2.env.length = ρ5.env.length := by
                    have := R6.len
                    rw [← this, ← wipe_length σ4 vs, w4', wipe_length, R2.len]
                  exact ⟨G6, _, us ++ [v], acc ++ [d5], l2.trans lt, Rb.writeZ zC, (ra.mono lt).append (.one rv), backP_noMl hl nm2, e2⟩
    · have hd : ds.drop i = [] := List.drop_eq_nil_iff.mpr (by omega)
      rw [hd] at e2
      unfold xCompL at e2
      cases e2
      obtain ⟨Rf, lf⟩ := R2.freezeZ zC
      exact .inl ⟨g1 (by omega), p.ok (l2.trans lf) Rf (.lst Gh.add_at (ra.mono lf))⟩
theorem de_comp {elt tg iter : Expr} {ifs : List Expr} {scope : Scope} {own : List (Str × Nat)} {fi : FX (List D)} {fg : FG} {ft : FX Bool} (hc : X.calm = true) (hN : X.N.Nodup) (hi : DI X W tg iter fi) (ok : BlkOk X.N X.env.scope scope own)
    (hg : ∀ (s : Shared) (H : Hp) (C : Addr) (cl : List (Str × Addr)) (fp : List Addr), DGc (X.blk s H scope (compEnvC scope cl C X.env) fp) (own.map (·.2)) tg fg) (ht : ∀ (s : Shared) (H : Hp) (C : Addr) (cl : List (Str × Addr)) (fp : List Addr), DTs (X.blk s H scope (compEnvC scope cl C X.env) fp) W0 ifs ft)
    (he : ∀ (s : Shared) (H : Hp) (C : Addr) (cl : List (Str × Addr)) (fp : List Addr), DE (X.blk s H scope (compEnvC scope cl C X.env) fp) W0 elt fe) (hs : ∀ x, foldedSetIterable iter X.env x = pure x := by intro _; rfl) :
    DE X W (.ListComp elt [⟨tg, iter, ifs, 0⟩] scope pos) (xComp fi (own.map (·.2)) fg ft fe) :=
  PE.imp (pe_lc hc hN hi ok hg ht he hs) fun σ H Q h => comp_run h
theorem ds_setComp {i : Nat} {y : Str} {py : Pos} {elt tg iter : Expr} {ifs : List Expr} {scope : Scope} {own : List (Str × Nat)} {spos : Pos} {fi : FX (List D)} {fg : FG} {ft : FX Bool} (hc : X.calm = true) (hN : X.N.Nodup) (hy : X.N[i]? = some y) (hyl : X.env.scope.names.lookup y = some .local)
    (hsw : swapsWith (.ListComp elt [⟨tg, iter, ifs, 0⟩] scope pos) (some (.Name y py)) spos.line X.env = pure true) (hi : DI X W tg iter fi) (ok : BlkOk X.N X.env.scope scope own)
    (hg : ∀ (s : Shared) (H : Hp) (C : Addr) (cl : List (Str × Addr)) (fp : List Addr), DGc (X.blk s H scope (compEnvC scope cl C X.env) fp) (own.map (·.2)) tg fg) (ht : ∀ (s : Shared) (H : Hp) (C : Addr) (cl : List (Str × Addr)) (fp : List Addr), DTs (X.blk s H scope (compEnvC scope cl C X.env) fp) W0 ifs ft)
    (he : ∀ (s : Shared) (H : Hp) (C : Addr) (cl : List (Str × Addr)) (fp : List Addr), DE (X.blk s H scope (compEnvC scope cl C X.env) fp) W0 elt fe) (hs : ∀ x, foldedSetIterable iter X.env x = pure x := by intro _; rfl) :
    DS X W (.Assign [.Name y py] (.ListComp elt [⟨tg, iter, ifs, 0⟩] scope pos) spos) (xAsg (xComp fi (own.map (·.2)) fg ft fe) (gN i)) := by
  refine PS.imp (ps_setLc (g := tGc X.K (own.map (·.2)) fg) (tt := tG X.K W0 RB ft) (te := tG X.K W0 (Rp X.K) fe) hc hN hy hyl hsw hi ok hg ht he hs) ?_
  rintro E σ H h
  have h2 := tS_bind (RV := Rp X.K) h
  refine comp_run (tG_imp h2 fun v H1 ⟨Z, G, ρ, d, R, r, p⟩ => ?_)
  have p : PostS X.K W Z G E (some (.nx (ρ.set i (.val d)))) := p
  exact p _ _ G (.refl _) (R.setVal r)
end
end PL
/-! PL8: texts so often, int of texts; a def by its datum; the end. -/
namespace PL
open PySem PySem.Spec PyProof.Rows L2

/-- a text so often -/
def repS (z : Str) (n : Nat) : Str := ⟨((List.replicate n z.cps.toList).flatten).toArray⟩
theorem fold_cat : ∀ (l : List (Array Nat)) (a : Array Nat), (l.foldl (· ++ ·) a).toList = a.toList ++ (l.map Array.toList).flatten
  | [], a => by simp
  | x :: l, a => by
    rw [List.foldl_cons, fold_cat l (a ++ x)]
    simp
theorem mul_rep {z : Str} {n : Int} (h : 0 ≤ n) : PySem.Txt.mul z n = repS z n.toNat := by
  unfold PySem.Txt.mul repS
  by_cases h1 : n < 1
  · have : n = 0 := by omega
    subst this
    rfl
  · rw [if_neg h1]
    by_cases h2 : (n == 1 || z.length == 0) = true
    · rw [if_pos h2]
      rw [Bool.or_eq_true] at h2
      rcases h2 with h2 | h2
      · have : n = 1 := by simpa using h2
        subst this
        obtain ⟨c⟩ := z
        simp
      · have h3 : z.cps.size = 0 := beq_iff_eq.mp h2
        obtain ⟨c⟩ := z
        have h4 : c = #[] := by simpa using h3
        subst h4
        simp
    · rw [if_neg h2]
      congr 1
      apply Array.ext'
      rw [fold_cat]
      simp
theorem sOk_rep {z : Str} {n : Nat} (h : sOk z = true) : sOk (repS z n) = true := by
  unfold sOk PySem.PyData.strOk at *
  rw [Array.all_eq_true'] at h ⊢
  intro c hc
  unfold repS at hc
  have hc' : c ∈ (List.replicate n z.cps.toList).flatten := by simpa using hc
  obtain ⟨l, hl, hcl⟩ := List.mem_flatten.mp hc'
  have := (List.mem_replicate.mp hl).2
  subst this
  exact h c (by simpa using hcl)
def rRepS : R2 := fun x y H Q => ∃ z n, x = .str z ∧ y = .int n ∧ 0 ≤ n ∧ n ≤ 100000 ∧ z.length * n.toNat ≤ smallN ∧ Q (.str (repS z n.toNat)) H
theorem op_repS {X : Cx} : OpR X (binaryOp .Mult) rRepS := by
  intro pins s σ H x y v u Q I rx ry h
  obtain ⟨z, n, rfl, rfl, h0, h1, hz, q⟩ := h
  obtain ⟨t, rfl⟩ := rx
  obtain ⟨t', rfl⟩ := ry
  have hz' : z.length * n.toNat ≤ 100000 := hz
  refine PySem.SB.mul ⟨?_, fun hn _ => ?_, fun hn _ => ?_⟩ fun t k => ⟨.str (repS z n.toNat), H, I.tok _, ⟨_, by rw [mul_rep h0]⟩, q⟩
  · rw [decide_eq_false (by omega), decide_eq_false (by omega)]; rfl
  · have e : (z.length : Int) * n ≤ 2 ^ 63 - 1 := by
      have : ((z.length * n.toNat : Nat) : Int) ≤ ((100000 : Nat) : Int) := Int.ofNat_le.mpr hz'
      rw [Int.natCast_mul, Int.toNat_of_nonneg h0] at this
      omega
    have := Int.le_ediv_of_mul_le (by omega : 0 < n) e
    omega
  · unfold Builtin.Str.tooLong
    exact decide_eq_false (by have : (100000 : Nat) < sizeLine := by decide
                              omega)
/-- * of ints, a text times an int -/
noncomputable def gMulA : O2
  | .int i, .int j => if mulOk i j then some (.int (i * j)) else none
  | .str z, .int n => if 0 ≤ n ∧ n ≤ 100000 ∧ z.length * n.toNat ≤ smallN then some (.str (repS z n.toNat)) else none
  | _, _ => none
theorem d_mulA {K : PySem.W.Frag} : DOp K (fun x y H Q => rI mulOk (fun i j => .int (i * j)) x y H Q ∨ rRepS x y H Q) gMulA := by
  intro Z G σ H ρ x y dx dy dz Q R rx ry e q
  unfold gMulA at e
  split at e
  · split at e
    · rename_i hh
      cases rx; cases ry; cases e
      exact .inl ⟨_, _, rfl, rfl, hh, q _ _ G (.refl _) R (.int _)⟩
    · cases e
  · split at e
    · rename_i hh
      cases rx with
      | str z hk =>
        cases ry
        cases e
        exact .inr ⟨_, _, rfl, rfl, hh.1, hh.2.1, hh.2.2, q _ _ G (.refl _) R (.str _ (sOk_rep hk))⟩
    · cases e
  · cases e
theorem o_mulA {X : Cx} : OpR X (binaryOp .Mult) (fun x y H Q => rI mulOk (fun i j => .int (i * j)) x y H Q ∨ rRepS x y H Q) := op_mulA.or op_repS
/-- int of a number, a bool, a text -/
def gIntA : List D → Option D
  | [.int i] => some (.int i)
  | [.bl b] => some (.int (if b then 1 else 0))
  | [.str z] => if z.length ≤ 640 then (match PySem.intText? z with
    | some n => some (.int n)
    | none => none) else none
  | _ => none
theorem d_intA {K : PySem.W.Frag} : DCall K (fun xs H Q => ((∃ i, xs = [.int i] ∧ Q (.int i) H) ∨ (∃ k, xs = [.bl k] ∧ Q (.int (if k then 1 else 0)) H)) ∨ (∃ a n, xs = [.str a] ∧ PySem.intText? a = some n ∧ a.length ≤ 640 ∧ Q (.int n) H)) gIntA := by
  intro Z G σ H ρ xs ds dz Q R r e q
  unfold gIntA at e
  split at e
  · obtain ⟨v, rfl, r1⟩ := one_of r
    cases r1; cases e
    exact .inl (.inl ⟨_, rfl, q _ _ G (.refl _) R (.int _)⟩)
  · obtain ⟨v, rfl, r1⟩ := one_of r
    cases r1; cases e
    exact .inl (.inr ⟨_, rfl, q _ _ G (.refl _) R (.int _)⟩)
  · split at e
    · rename_i hz
      obtain ⟨v, rfl, r1⟩ := one_of r
      cases r1
      split at e
      · rename_i n hn
        cases e
        exact .inr ⟨_, _, rfl, hn, hz, q _ _ G (.refl _) R (.int _)⟩
      · cases e
    · cases e
  · cases e
theorem c_intA {X : Cx} : CallR X (.type "int") (fun xs H Q => ((∃ i, xs = [.int i] ∧ Q (.int i) H) ∨ (∃ k, xs = [.bl k] ∧ Q (.int (if k then 1 else 0)) H)) ∨ (∃ a n, xs = [.str a] ∧ PySem.intText? a = some n ∧ a.length ≤ 640 ∧ Q (.int n) H)) := call_int1.or call_int_str
/-! ### a def by its datum -/
theorem mk_callee {P : Program} {w : World} {K : PySem.W.Frag} {mg : Str → Option Value} {base : Heap} {x : Str} {params : Arguments} {body : List Stmt} {scope : Scope} {f : Addr} {fd : FuncData} {N ps : List Str} {k : Nat} {b : FS}
    (F : FunD K x x params body scope [] [] f fd) (S : FnScope N ps scope) (hm : mg x = some (.ref f))
    (hbind : ∀ (kV doc pm : Value) (an : Option Addr) (cdv ct : Value) (us : List Value), us.length = ps.length → bindArgs (PySem.W.fnOf x x params body scope .none kV doc pm an cdv ct) ⟨us, []⟩ = pure (ps.zip us))
    (hb : ∀ (cdv : Value) (A : Around) (outer : List Env) (s : Shared) (H : Hp) (E : XK), Room k (A.deeper (envOfC x scope s.heap.objs.size f cdv)) →
      DSs (cxOf (L2.CX P w) P w K mg base N x scope f cdv A outer s H E) (WF E) body b) : Callee P w K mg base (k + 1) x ps.length (runF N.length b) :=
  ⟨f, fd, ps, fn_ok F S hb, hm, F.kp, F.bindsN hbind⟩
/-! ### the law's end -/
theorem law_end {P : Program} {w : World} {K : PySem.W.Frag} {mg : Str → Option Value} {base : Heap} {k : Nat} {F : DFun} {n : Nat} (hlaw : ∀ ns : List Int, ns.length ≤ n → ∃ s', F [.scr ns] none = some (.ok (.bl true) s')) :
    ∀ (H : Hp) (a : Addr) (ns : List Int), ns.length ≤ n → Only H → SqL K H a (ns.map V.int) → spD K 1 F [.ref a] H (fun v _ => v = .bl true) fun _ _ _ => False := by
  intro H a ns hl _ hS
  obtain ⟨s', e⟩ := hlaw ns hl
  refine ⟨rfl, fun _ => none, ⟨H, none⟩, [.scr ns], none, Base.mk (fun _ _ h => h) (fun _ _ h => nomatch h) rfl, .one (.scr hS), ?_⟩
  rw [e]
  intro v H' G' l B r
  cases r
  rfl
/-- a law: F gives the written part, the function object, the promise over every base -/
theorem walk_X {l : PySem.W.OpenLaw} {n k : Nat} {q : Program} {loose : List Str} {XP : (Str → Option Value) → Heap → Prop} {YP : World → Heap → Prop} {d : DefRec} {x : Str}
    (hn : l.most = some n) (hn2 : n ≤ sizeLine) (hdf : d.params.defaults = []) (hr : Room k callerA)
    (F : ∀ (w : World) (mg : Str → Option Value) (fa : Addr) (h : Heap), YP w h → h.Ns mainGlobals mg → mg d.name = some (.ref fa) →
      ∃ (K : PySem.W.Frag) (fd : FuncData) (sp : Sp), K.In h ∧ (∀ (s : Shared) (u : Value), BindsTo s fd ⟨[u], []⟩ [(x, u)]) ∧
        (∀ (H : Hp) (a : Addr) (ns : List Int), ns.length ≤ n → Only H → SqL K H a (ns.map V.int) → sp [.ref a] H (fun v _ => v = .bl true) fun _ _ _ => False) ∧
        ∀ base : Heap, K.In base → base.Ns mainGlobals mg → FnOk l.prog w K mg base (L2.CX l.prog w) k fa fd [x] sp) :
    PySem.W.WalkO q loose XP YP l.row.toRowW d [] (fun f vs => PySem.call f vs) := by
  refine Att.attach_call hn hdf fun w s₀ s₁ mg mb fa o pm cd doc a vs ns G Y ho hd hcd hmg hobj hints hlen hg => ?_
  obtain ⟨K, fd, sp, KX, hb, hsp, hF⟩ := F w mg fa _ Y G.T.g hmg
  exact law_call KX G.T.g G.T.b G.T.builtins G.T.nolimit hg hobj hints (Nat.le_trans hlen hn2) hr hF hb (fun H hO hS => hsp H a ns hlen hO hS) fun H e s' h => by
    obtain ⟨_, _, _, _, _, _, _, _, _, _, _, _, z⟩ := h
    exact z
end PL
/-! PV: the pure layer, run step by step: one rule for each shape, no binder in sight. -/
namespace PL
open PySem PySem.Spec PyProof.Rows L2
section
variable {α β : Type} {a : α} {ρ : PS} {fa fb fc fo : FX D} {f g : FX D} {d e : D} {ds : List D} {cb cb' : FX Bool} {s t : FS} {o : Out}
theorem xb_ok {k : α → PS → Option (Rx β)} : xb (some (.ok a ρ)) k = k a ρ := rfl
theorem xb_er {x : Ex} {k : α → PS → Option (Rx β)} : xb (some (.er x ρ)) k = some (.er x ρ) := rfl
theorem xb_none {k : α → PS → Option (Rx β)} : xb none k = none := rfl
theorem xbS_ok {k : α → PS → Option Out} : xbS (some (.ok a ρ)) k = k a ρ := rfl
theorem xbS_er {x : Ex} {k : α → PS → Option Out} : xbS (some (.er x ρ)) k = some (.er x ρ) := rfl
theorem xbS_none {k : α → PS → Option Out} : xbS none k = none := rfl
theorem ret_some : ret (some d) ρ = some (.ok d ρ) := rfl
theorem ret_if {c : Prop} [Decidable c] (h : c) : ret (if c then some d else none) ρ = some (.ok d ρ) := by rw [if_pos h]; rfl
-- slots
def rdV (i : Nat) (ρ : PS) : Option (Option Sl) → Option (Rx D)
  | some (some (.val d)) => some (.ok d ρ)
  | some (some (.ml ds)) => some (.ok (.lst ds) (ρ.set i (.val (.lst ds))))
  | _ => none
theorem ev_var {i : Nat} : xVar i ρ = rdV i ρ ρ.env[i]? := by unfold xVar rdV; rfl
theorem rdV_val {i : Nat} : rdV i ρ (some (some (.val d))) = some (.ok d ρ) := rfl
theorem rdV_ml {i : Nat} : rdV i ρ (some (some (.ml ds))) = some (.ok (.lst ds) (ρ.set i (.val (.lst ds)))) := rfl
theorem env_mk {e : List (Option Sl)} {s : Option Src} : PS.env ⟨e, s⟩ = e := rfl
theorem src_mk {e : List (Option Sl)} {s : Option Src} : PS.src ⟨e, s⟩ = s := rfl
theorem ev_c : xC d ρ = some (.ok d ρ) := rfl
theorem set_mk {e : List (Option Sl)} {s : Option Src} {i : Nat} {x : Sl} : PS.set ⟨e, s⟩ i x = ⟨e.set i (some x), s⟩ := rfl
-- operators
def kBin1 (g : O2) (a : D) : D → PS → Option (Rx D) := fun b ρ => ret (g a b) ρ
def kBin2 (g : O2) (fb : FX D) : D → PS → Option (Rx D) := fun a ρ => xb (fb ρ) (kBin1 g a)
theorem ev_bin {g : O2} : xBin g fa fb ρ = xb (fa ρ) (kBin2 g fb) := rfl
theorem ev_bin2 {g : O2} : kBin2 g fb d ρ = xb (fb ρ) (kBin1 g d) := rfl
theorem ev_bin1 {g : O2} : kBin1 g d e ρ = ret (g d e) ρ := rfl
def kUn (g : O1) : D → PS → Option (Rx D) := fun a ρ => ret (g a) ρ
theorem ev_un {g : O1} : xUn g fa ρ = xb (fa ρ) (kUn g) := rfl
theorem ev_un1 {g : O1} : kUn g d ρ = ret (g d) ρ := rfl
def kBlt (g : List D → Option D) : List D → PS → Option (Rx D) := fun a ρ => ret (g a) ρ
theorem ev_blt {g : List D → Option D} {fs : FX (List D)} : xBlt g fs ρ = xb (fs ρ) (kBlt g) := rfl
theorem ev_blt1 {g : List D → Option D} : kBlt g ds ρ = ret (g ds) ρ := rfl
theorem ev_tup {fs : FX (List D)} : xTup fs ρ = xb (fs ρ) (kBlt mkTup) := rfl
theorem ev_lst {fs : FX (List D)} : xLst fs ρ = xb (fs ρ) (kBlt mkLst) := rfl
theorem ev_ix : xIx fa fb ρ = xb (fa ρ) (kBin2 gIx fb) := rfl
def kAsB : D → PS → Option (Rx Bool) := fun d ρ => match d with
  | .bl b => some (.ok b ρ)
  | _ => none
theorem ev_asB : asB f ρ = xb (f ρ) kAsB := rfl
theorem ev_asB1 {b : Bool} : kAsB (.bl b) ρ = some (.ok b ρ) := rfl
def kAnd (g : FX Bool) : Bool → PS → Option (Rx Bool) := fun b ρ => if b = true then g ρ else some (.ok false ρ)
theorem ev_and : xAnd cb cb' ρ = xb (cb ρ) (kAnd cb') := rfl
theorem ev_and_t : kAnd cb true ρ = cb ρ := rfl
theorem ev_and_f : kAnd cb false ρ = some (.ok false ρ) := rfl
def kOr (g : FX Bool) : Bool → PS → Option (Rx Bool) := fun b ρ => if b = true then some (.ok true ρ) else g ρ
theorem ev_or : xOr cb cb' ρ = xb (cb ρ) (kOr cb') := rfl
theorem ev_or_t : kOr cb true ρ = some (.ok true ρ) := rfl
theorem ev_or_f : kOr cb false ρ = cb ρ := rfl
def kNot : Bool → PS → Option (Rx Bool) := fun b ρ => some (.ok (!b) ρ)
theorem ev_not : xNot cb ρ = xb (cb ρ) kNot := rfl
theorem ev_not1 {b : Bool} : kNot b ρ = some (.ok (!b) ρ) := rfl
def kIf {α : Type} (f g : FX α) : Bool → PS → Option (Rx α) := fun b ρ => if b = true then f ρ else g ρ
theorem ev_if {f g : FX α} : xIf cb f g ρ = xb (cb ρ) (kIf f g) := rfl
theorem ev_if_t {f g : FX α} : kIf f g true ρ = f ρ := rfl
theorem ev_if_f {f g : FX α} : kIf f g false ρ = g ρ := rfl
def kToB : Bool → PS → Option (Rx D) := fun b ρ => some (.ok (.bl b) ρ)
theorem ev_toB : toB cb ρ = xb (cb ρ) kToB := rfl
theorem ev_toB1 {b : Bool} : kToB b ρ = some (.ok (.bl b) ρ) := rfl
def kAndV (g : FX D) : D → PS → Option (Rx D) := fun d ρ => match d with
  | .bl b => if b = true then g ρ else some (.ok (.bl false) ρ)
  | _ => none
theorem ev_andV : xAndV fa fb ρ = xb (fa ρ) (kAndV fb) := rfl
theorem ev_andV_t : kAndV fb (.bl true) ρ = fb ρ := rfl
theorem ev_andV_f : kAndV fb (.bl false) ρ = some (.ok (.bl false) ρ) := rfl
def kOrV (g : FX D) : D → PS → Option (Rx D) := fun d ρ => match d with
  | .bl b => if b = true then some (.ok (.bl true) ρ) else g ρ
  | _ => none
theorem ev_orV : xOrV fa fb ρ = xb (fa ρ) (kOrV fb) := rfl
theorem ev_orV_t : kOrV fb (.bl true) ρ = some (.ok (.bl true) ρ) := rfl
theorem ev_orV_f : kOrV fb (.bl false) ρ = fb ρ := rfl
def kNotV : D → PS → Option (Rx D) := fun d ρ => match d with
  | .bl b => some (.ok (.bl (!b)) ρ)
  | _ => none
theorem ev_notV : xNotV fa ρ = xb (fa ρ) kNotV := rfl
theorem ev_notV1 {b : Bool} : kNotV (.bl b) ρ = some (.ok (.bl (!b)) ρ) := rfl
def kCons1 (d : D) : List D → PS → Option (Rx (List D)) := fun ds ρ => some (.ok (d :: ds) ρ)
def kCons (g : FX (List D)) : D → PS → Option (Rx (List D)) := fun d ρ => xb (g ρ) (kCons1 d)
theorem ev_nil : xNil ρ = some (.ok [] ρ) := rfl
theorem ev_cons {fs : FX (List D)} : xCons f fs ρ = xb (f ρ) (kCons fs) := rfl
theorem ev_cons1 {fs : FX (List D)} : kCons fs d ρ = xb (fs ρ) (kCons1 d) := rfl
theorem ev_cons2 : kCons1 d ds ρ = some (.ok (d :: ds) ρ) := rfl
-- statements
def sq (r : Option Out) (g : FS) : Option Out := match r with
  | some (.nx ρ) => g ρ
  | r => r
theorem ev_seq : xSeq s t ρ = sq (s ρ) t := by
  unfold xSeq sq
  cases s ρ with
  | none => rfl
  | some o => cases o <;> rfl
theorem sq_nx : sq (some (.nx ρ)) t = t ρ := rfl
theorem sq_rt : sq (some (.rt d ρ)) t = some (.rt d ρ) := rfl
theorem sq_er {x : Ex} : sq (some (.er x ρ)) t = some (.er x ρ) := rfl
theorem sq_bk : sq (some (.bk ρ)) t = some (.bk ρ) := rfl
theorem sq_ct : sq (some (.ct ρ)) t = some (.ct ρ) := rfl
theorem ev_next : xNext ρ = some (.nx ρ) := rfl
theorem ev_break : xBreak ρ = some (.bk ρ) := rfl
theorem ev_cont : xCont ρ = some (.ct ρ) := rfl
def kDrop : D → PS → Option Out := fun _ ρ => some (.nx ρ)
theorem ev_drop : xDrop f ρ = xbS (f ρ) kDrop := rfl
theorem ev_drop1 : kDrop d ρ = some (.nx ρ) := rfl
def kRet : D → PS → Option Out := fun d ρ => some (.rt d ρ)
theorem ev_ret : xRet f ρ = xbS (f ρ) kRet := rfl
theorem ev_ret1 : kRet d ρ = some (.rt d ρ) := rfl
theorem ev_retN : xRetN ρ = some (.rt .non ρ) := rfl
def kIfS (f g : FS) : Bool → PS → Option Out := fun b ρ => if b = true then f ρ else g ρ
theorem ev_ifS : xIfS cb s t ρ = xbS (cb ρ) (kIfS s t) := rfl
theorem ev_ifS_t : kIfS s t true ρ = s ρ := rfl
theorem ev_ifS_f : kIfS s t false ρ = t ρ := rfl
def nxO (r : Option PS) : Option Out := match r with
  | some ρ => some (.nx ρ)
  | none => none
theorem nxO_some : nxO (some ρ) = some (.nx ρ) := rfl
def kAsg (g : FG) : D → PS → Option Out := fun d ρ => nxO (g d ρ)
theorem ev_asg {g : FG} : xAsg f g ρ = xbS (f ρ) (kAsg g) := by
  unfold xAsg
  congr 1
  funext d ρ1
  show _ = nxO (g d ρ1)
  cases g d ρ1 <;> rfl
theorem ev_asg1 {g : FG} : kAsg g d ρ = nxO (g d ρ) := rfl
theorem ev_gN {i : Nat} : gN i d ρ = some (ρ.set i (.val d)) := rfl
theorem ev_gTp {n : Nat} {gs : FGs} : gTp n gs (.tup ds) ρ = if ds.length = n then gs ds ρ else none := rfl
theorem ev_gsNil : gsNil [] ρ = some ρ := rfl
def obS (r : Option PS) (g : FGs) (ds : List D) : Option PS := match r with
  | some ρ => g ds ρ
  | none => none
theorem ev_gsCons {h : FG} {gs : FGs} : gsCons h gs (d :: ds) ρ = obS (h d ρ) gs ds := by
  show (match h d ρ with | none => none | some ρ1 => gs ds ρ1) = _
  unfold obS
  cases h d ρ <;> rfl
theorem obS_some {gs : FGs} : obS (some ρ) gs ds = gs ds ρ := rfl
def kNew (i : Nat) : List D → PS → Option Out := fun ds ρ => if ds.length ≤ smallN then some (.nx (ρ.set i (.ml ds))) else none
theorem ev_new {i : Nat} {fs : FX (List D)} : xNew i fs ρ = xbS (fs ρ) (kNew i) := rfl
theorem ev_new1 {i : Nat} : kNew i ds ρ = if ds.length ≤ smallN then some (.nx (ρ.set i (.ml ds))) else none := rfl
def kPar (i j : Nat) : List D → PS → Option Out := fun ds ρ => match ds with
  | [a, b] => some (.nx ((ρ.set i (.val a)).set j (.val b)))
  | _ => none
theorem ev_par {i j : Nat} {fs : FX (List D)} : xPar i j fs ρ = xbS (fs ρ) (kPar i j) := rfl
theorem ev_par1 {i j : Nat} : kPar i j [d, e] ρ = some (.nx ((ρ.set i (.val d)).set j (.val e))) := rfl
def kParNew1 (i j : Nat) (ds : List D) : D → PS → Option Out := fun b ρ => some (.nx ((ρ.set i (.ml ds)).set j (.val b)))
def kParNew (i j : Nat) (g : FX D) : List D → PS → Option Out := fun ds ρ => if ds.length ≤ smallN then xbS (g ρ) (kParNew1 i j ds) else none
theorem ev_parNew {i j : Nat} {fs : FX (List D)} : xParNew i j fs g ρ = xbS (fs ρ) (kParNew i j g) := rfl
theorem ev_parNew1 {i j : Nat} : kParNew i j g ds ρ = if ds.length ≤ smallN then xbS (g ρ) (kParNew1 i j ds) else none := rfl
theorem ev_parNew2 {i j : Nat} : kParNew1 i j ds d ρ = some (.nx ((ρ.set i (.ml ds)).set j (.val d))) := rfl
def kFor (g : FG) (b : FS) : List D → PS → Option Out := fun ds ρ => xForL g b ds ρ
theorem ev_for {fi : FX (List D)} {g : FG} : xFor fi g s ρ = xbS (fi ρ) (kFor g s) := rfl
theorem ev_for1 {g : FG} : kFor g s ds ρ = xForL g s ds ρ := rfl
theorem ev_forNil {g : FG} : xForL g s [] ρ = some (.nx ρ) := rfl
/-- one round of a for, then the rest -/
def lp (g : FG) (b : FS) (ds : List D) (r : Option Out) : Option Out := match r with
  | some (.nx ρ2) => xForL g b ds ρ2
  | some (.ct ρ2) => xForL g b ds ρ2
  | some (.bk ρ2) => some (.nx ρ2)
  | r => r
def onG (r : Option PS) (b : FS) : Option Out := match r with
  | some ρ => b ρ
  | none => none
theorem onG_some : onG (some ρ) s = s ρ := rfl
theorem ev_forCons {g : FG} : xForL g s (d :: ds) ρ = lp g s ds (onG (g d ρ) s) := by
  unfold xForL lp onG
  cases g d ρ with
  | none => rfl
  | some ρ1 =>
    first
    | (cases s ρ1 with
       | none => rfl
       | some o => cases o <;> rfl)
    | (simp only; done)
    | (simp only
       cases s ρ1 with
       | none => rfl
       | some o => cases o <;> rfl)
theorem lp_nx {g : FG} : lp g s ds (some (.nx ρ)) = xForL g s ds ρ := rfl
theorem lp_ct {g : FG} : lp g s ds (some (.ct ρ)) = xForL g s ds ρ := rfl
theorem lp_bk {g : FG} : lp g s ds (some (.bk ρ)) = some (.nx ρ) := rfl
theorem lp_rt {g : FG} : lp g s ds (some (.rt d ρ)) = some (.rt d ρ) := rfl
theorem lp_er {g : FG} {x : Ex} : lp g s ds (some (.er x ρ)) = some (.er x ρ) := rfl
/-- one round of a while, then the rest -/
def lw (c : FX Bool) (b : FS) (n : Nat) (r : Option Out) : Option Out := match r with
  | some (.nx ρ2) => xWhileN c b n ρ2
  | some (.ct ρ2) => xWhileN c b n ρ2
  | some (.bk ρ2) => some (.nx ρ2)
  | r => r
def kWh (c : FX Bool) (b : FS) (n : Nat) : Bool → PS → Option Out := fun t ρ => if t = true then lw c b n (b ρ) else some (.nx ρ)
theorem ev_whN {n : Nat} : xWhileN cb s (n + 1) ρ = xbS (cb ρ) (kWh cb s n) := by
  rfl
theorem ev_wh_t {n : Nat} : kWh cb s n true ρ = lw cb s n (s ρ) := rfl
theorem ev_wh_f {n : Nat} : kWh cb s n false ρ = some (.nx ρ) := rfl
theorem lw_nx {n : Nat} : lw cb s n (some (.nx ρ)) = xWhileN cb s n ρ := rfl
theorem lw_ct {n : Nat} : lw cb s n (some (.ct ρ)) = xWhileN cb s n ρ := rfl
theorem lw_bk {n : Nat} : lw cb s n (some (.bk ρ)) = some (.nx ρ) := rfl
theorem lw_rt {n : Nat} : lw cb s n (some (.rt d ρ)) = some (.rt d ρ) := rfl
theorem lw_er {n : Nat} {x : Ex} : lw cb s n (some (.er x ρ)) = some (.er x ρ) := rfl
-- calls
def cR (e : List (Option Sl)) (r : Option RD) : Option (Rx D) := match r with
  | none => none
  | some (.ok d s) => some (.ok d ⟨e, s⟩)
  | some (.er x s) => some (.er x ⟨e, s⟩)
def kCall (n : Nat) (F : DFun) : List D → PS → Option (Rx D) := fun ds ρ => if ds.length = n then cR ρ.env (F ds ρ.src) else none
theorem ev_call {n : Nat} {F : DFun} {fs : FX (List D)} : xCall n F fs ρ = xb (fs ρ) (kCall n F) := by
  unfold xCall
  rfl
theorem ev_call1 {n : Nat} {F : DFun} (h : ds.length = n := by rfl) : kCall n F ds ρ = cR ρ.env (F ds ρ.src) := by
  unfold kCall
  rw [if_pos h]
theorem cR_ok {e : List (Option Sl)} {s : Option Src} : cR e (some (.ok d s)) = some (.ok d ⟨e, s⟩) := rfl
theorem cR_er {e : List (Option Sl)} {s : Option Src} {x : Ex} : cR e (some (.er x s)) = some (.er x ⟨e, s⟩) := rfl
theorem end_rt : endF (some (.rt d ρ)) = some (.ok d ρ.src) := rfl
theorem end_nx : endF (some (.nx ρ)) = some (.ok .non ρ.src) := rfl
theorem end_er {x : Ex} : endF (some (.er x ρ)) = some (.er x ρ.src) := rfl
theorem ev_run {n : Nat} {s : Option Src} : runF n t ds s = endF (t ⟨stEnv n ds, s⟩) := rfl
-- a slot's own list
def kApp1 (i : Nat) (d : D) (ρ1 : PS) : Option (Option Sl) → Option Out
  | some (some (.ml ds)) => if ds.length < smallN then some (.nx (ρ1.set i (.ml (ds ++ [d])))) else none
  | _ => none
def kApp (i : Nat) : D → PS → Option Out := fun d ρ1 => kApp1 i d ρ1 ρ1.env[i]?
def onMl (f : FX D) (k : D → PS → Option Out) (ρ : PS) : Option (Option Sl) → Option Out
  | some (some (.ml _)) => xbS (f ρ) k
  | _ => none
theorem ev_app {i : Nat} : xAppend i f ρ = onMl f (kApp i) ρ ρ.env[i]? := by
  rfl
theorem onMl_ml {k : D → PS → Option Out} : onMl f k ρ (some (some (.ml ds))) = xbS (f ρ) k := rfl
theorem ev_app1 {i : Nat} : kApp i d ρ = kApp1 i d ρ ρ.env[i]? := rfl
theorem ev_app2 {i : Nat} : kApp1 i d ρ (some (some (.ml ds))) = if ds.length < smallN then some (.nx (ρ.set i (.ml (ds ++ [d])))) else none := rfl
def mlOf : Option (Option Sl) → Option (List D)
  | some (some (.ml ds)) => some ds
  | _ => none
theorem ev_asL {i : Nat} : asL ρ i = mlOf ρ.env[i]? := by unfold asL mlOf; rfl
theorem mlOf_ml : mlOf (some (some (.ml ds))) = some ds := rfl
def lenO (ρ : PS) : Option (List D) → Option (Rx D)
  | none => none
  | some ds => some (.ok (.int ds.length) ρ)
theorem ev_lenM {i : Nat} : xLenM i ρ = lenO ρ (asL ρ i) := by unfold xLenM lenO; cases asL ρ i <;> rfl
theorem lenO_some : lenO ρ (some ds) = some (.ok (.int ds.length) ρ) := rfl
-- the source
def kGet (f : Fld) : D → PS → Option (Rx D) := fun d ρ1 => match d, ρ1.src with
  | .src, some s => some (.ok (.int (f.get s)) ρ1)
  | _, _ => none
theorem ev_get {f : Fld} : xSrcGet f fo ρ = xb (fo ρ) (kGet f) := rfl
theorem ev_get1 {f : Fld} {e : List (Option Sl)} {s : Src} : kGet f .src ⟨e, some s⟩ = some (.ok (.int (f.get s)) ⟨e, some s⟩) := rfl
def kPut1 (f : Fld) (v : D) : D → PS → Option Out := fun d ρ2 => match v, d, ρ2.src with
  | .int v, .src, some s => some (.nx ⟨ρ2.env, some (f.put s v)⟩)
  | _, _, _ => none
def kPut (f : Fld) (fo : FX D) : D → PS → Option Out := fun v ρ => xbS (fo ρ) (kPut1 f v)
theorem ev_put {f : Fld} : xSrcPut f fa fo ρ = xbS (fa ρ) (kPut f fo) := rfl
theorem ev_put1 {f : Fld} : kPut f fo d ρ = xbS (fo ρ) (kPut1 f d) := rfl
theorem ev_put2 {f : Fld} {v : Int} {e : List (Option Sl)} {s : Src} : kPut1 f (.int v) .src ⟨e, some s⟩ = some (.nx ⟨e, some (f.put s v)⟩) := rfl
def kSLen : D → PS → Option (Rx D) := fun d ρ1 => match d, ρ1.src with
  | .src, some s => some (.ok (.int s.cells.length) ρ1)
  | _, _ => none
theorem ev_slen : xSrcLen fo ρ = xb (fo ρ) kSLen := rfl
theorem ev_slen1 {e : List (Option Sl)} {s : Src} : kSLen .src ⟨e, some s⟩ = some (.ok (.int s.cells.length) ⟨e, some s⟩) := rfl
def kSPop1 (e : List (Option Sl)) (s : Src) : Option Int → Option (Rx D)
  | some n => some (.ok (.int n) ⟨e, some { s with cells := s.cells.dropLast }⟩)
  | none => none
def kSPop : D → PS → Option (Rx D) := fun d ρ1 => match d, ρ1.src with
  | .src, some s => kSPop1 ρ1.env s s.cells[s.cells.length - 1]?
  | _, _ => none
theorem ev_spop : xSrcPop fo ρ = xb (fo ρ) kSPop := rfl
theorem ev_spop1 {e : List (Option Sl)} {s : Src} : kSPop .src ⟨e, some s⟩ = kSPop1 e s s.cells[s.cells.length - 1]? := rfl
theorem ev_spop2 {e : List (Option Sl)} {s : Src} {n : Int} : kSPop1 e s (some n) = some (.ok (.int n) ⟨e, some { s with cells := s.cells.dropLast }⟩) := rfl
def kSNew (fm : FX D) : D → PS → Option (Rx D) := fun c ρ => match c with
  | .lst ds => xb (fm ρ) (mkSrc ds)
  | _ => none
theorem ev_snew : xSrcNew fa fb ρ = xb (fa ρ) (kSNew fb) := rfl
theorem ev_snew1 : kSNew fb (.lst ds) ρ = xb (fb ρ) (mkSrc ds) := rfl
-- walks over data
def kScr : D → PS → Option (Rx (List D)) := fun d ρ1 => match d with
  | .scr ns => some (.ok (ns.map D.int) ρ1)
  | _ => none
theorem ev_scr : xScrOf f ρ = xb (f ρ) kScr := rfl
theorem ev_scr1 {ns : List Int} : kScr (.scr ns) ρ = some (.ok (ns.map D.int) ρ) := rfl
def kSeqOf : D → PS → Option (Rx (List D)) := fun d ρ1 => match d with
  | .lst ds => some (.ok ds ρ1)
  | _ => none
theorem ev_seqOf : xSeqOf f ρ = xb (f ρ) kSeqOf := rfl
theorem ev_seqOf1 : kSeqOf (.lst ds) ρ = some (.ok ds ρ) := rfl
def kTupOf : D → PS → Option (Rx (List D)) := fun d ρ1 => match d with
  | .tup ds => some (.ok ds ρ1)
  | _ => none
theorem ev_tupOf : xTupOf f ρ = xb (f ρ) kTupOf := rfl
theorem ev_tupOf1 : kTupOf (.tup ds) ρ = some (.ok ds ρ) := rfl
def kR1 : List D → PS → Option (Rx (List D)) := fun ds ρ1 => match ds with
  | [.int j] => if -(2 ^ 62) ≤ j ∧ j < 2 ^ 62 then some (.ok (rangeL 0 j.toNat) ρ1) else none
  | _ => none
theorem ev_r1 {fs : FX (List D)} : xRange1 fs ρ = xb (fs ρ) kR1 := rfl
theorem ev_r11 {j : Int} : kR1 [.int j] ρ = if -(2 ^ 62) ≤ j ∧ j < 2 ^ 62 then some (.ok (rangeL 0 j.toNat) ρ) else none := rfl
def kR2 : List D → PS → Option (Rx (List D)) := fun ds ρ1 => match ds with
  | [.int i, .int j] => if -(2 ^ 62) ≤ i ∧ i < 2 ^ 62 ∧ -(2 ^ 62) ≤ j ∧ j < 2 ^ 62 then some (.ok (rangeL i (j - i).toNat) ρ1) else none
  | _ => none
theorem ev_r2 {fs : FX (List D)} : xRange2 fs ρ = xb (fs ρ) kR2 := rfl
theorem ev_r21 {i j : Int} : kR2 [.int i, .int j] ρ = if -(2 ^ 62) ≤ i ∧ i < 2 ^ 62 ∧ -(2 ^ 62) ≤ j ∧ j < 2 ^ 62 then some (.ok (rangeL i (j - i).toNat) ρ) else none := rfl
-- comprehensions
def kCmp (vs : List Nat) (g : FG) (t : FX Bool) (f : FX D) : List D → PS → Option (Rx D) := fun ds ρ1 => if noMl vs ρ1 = true then match xCompL vs g t f ds [] ρ1 with
    | none => none
    | some (acc, ρ2) => some (.ok (.lst acc) ρ2)
  else none
theorem ev_comp {fi : FX (List D)} {vs : List Nat} {g : FG} : xComp fi vs g cb f ρ = xb (fi ρ) (kCmp vs g cb f) := rfl
def cmpO (r : Option (List D × PS)) : Option (Rx D) := match r with
  | none => none
  | some (acc, ρ2) => some (.ok (.lst acc) ρ2)
theorem ev_cmp1 {vs : List Nat} {g : FG} (h : noMl vs ρ = true) : kCmp vs g cb f ds ρ = cmpO (xCompL vs g cb f ds [] ρ) := by
  unfold kCmp cmpO
  rw [if_pos h]
theorem cmpO_some : cmpO (some (ds, ρ)) = some (.ok (.lst ds) ρ) := rfl
def cmpIf (vs : List Nat) (g : FG) (t : FX Bool) (f : FX D) (ds acc : List D) (ρ : PS) : Option (Rx D) → Option (List D × PS)
  | some (.ok e ρ3) => if acc.length < smallN then xCompL vs g t f ds (acc ++ [e]) (backP vs ρ ρ3) else none
  | _ => none
def cmpT (vs : List Nat) (g : FG) (t : FX Bool) (f : FX D) (ds acc : List D) (ρ : PS) : Option (Rx Bool) → Option (List D × PS)
  | some (.ok true ρ2) => cmpIf vs g t f ds acc ρ (f ρ2)
  | some (.ok false ρ2) => xCompL vs g t f ds acc (backP vs ρ ρ2)
  | _ => none
def onT (t : FX Bool) : Option PS → Option (Rx Bool)
  | some ρ => t ρ
  | none => none
theorem onT_some {t : FX Bool} : onT t (some ρ) = t ρ := rfl
theorem ev_cmpNil {vs : List Nat} {g : FG} {acc : List D} : xCompL vs g cb f [] acc ρ = some (acc, ρ) := rfl
theorem ev_cmpCons {vs : List Nat} {g : FG} {acc : List D} : xCompL vs g cb f (d :: ds) acc ρ = cmpT vs g cb f ds acc ρ (onT cb (g d (wipeP vs ρ))) := by
  conv => lhs; unfold xCompL
  cases g d (wipeP vs ρ) with
  | none => rfl
  | some ρ1 =>
    simp only [onT]
    cases h : cb ρ1 with
    | none => rfl
    | some o =>
      cases o with
      | er x ρ2 => rfl
      | ok b ρ2 =>
        cases b with
        | false => rfl
        | true =>
          simp only [cmpT]
          cases f ρ2 with
          | none => rfl
          | some z => cases z <;> rfl
theorem cmpT_t {vs : List Nat} {g : FG} {acc : List D} {ρ2 : PS} : cmpT vs g cb f ds acc ρ (some (.ok true ρ2)) = cmpIf vs g cb f ds acc ρ (f ρ2) := rfl
theorem cmpT_f {vs : List Nat} {g : FG} {acc : List D} {ρ2 : PS} : cmpT vs g cb f ds acc ρ (some (.ok false ρ2)) = xCompL vs g cb f ds acc (backP vs ρ ρ2) := rfl
theorem cmpIf_ok {vs : List Nat} {g : FG} {acc : List D} {ρ2 : PS} : cmpIf vs g cb f ds acc ρ (some (.ok e ρ2)) = if acc.length < smallN then xCompL vs g cb f ds (acc ++ [e]) (backP vs ρ ρ2) else none := rfl
theorem ev_yes : xYes ρ = some (.ok true ρ) := rfl
theorem backP_mk {vs : List Nat} {e0 e1 : List (Option Sl)} {s0 s1 : Option Src} : backP vs ⟨e0, s0⟩ ⟨e1, s1⟩ = ⟨backE e0 vs e1, s1⟩ := rfl
theorem wipeP_mk {vs : List Nat} {e0 : List (Option Sl)} {s0 : Option Src} : wipeP vs ⟨e0, s0⟩ = ⟨wipeE vs e0, s0⟩ := rfl
-- operators at data
theorem gMulA_int {i j : Int} : gMulA (.int i) (.int j) = if mulOk i j then some (.int (i * j)) else none := rfl
theorem gI_int {g : Int → Int → D} {i j : Int} : gI g (.int i) (.int j) = some (g i j) := rfl
theorem gIc_int {c : Int → Int → Prop} [∀ i j, Decidable (c i j)] {g : Int → Int → D} {i j : Int} : gIc c g (.int i) (.int j) = if c i j then some (g i j) else none := rfl
theorem gAdd_int {i j : Int} : gAdd (.int i) (.int j) = some (.int (i + j)) := rfl
theorem gNeg_int {i : Int} : gNeg (.int i) = some (.int (-i)) := rfl
theorem gAbs_int {i : Int} : gAbs [.int i] = some (.int (if i < 0 then -i else i)) := rfl
theorem gMax2_int {i j : Int} : gMax2 [.int i, .int j] = some (.int (if j > i then j else i)) := rfl
theorem gMin2_int {i j : Int} : gMin2 [.int i, .int j] = some (.int (if j < i then j else i)) := rfl
theorem gIntA_int {i : Int} : gIntA [.int i] = some (.int i) := rfl
theorem gIntA_bl {b : Bool} : gIntA [.bl b] = some (.int (if b then 1 else 0)) := rfl
theorem gLen_lst : gLen [.lst ds] = some (.int ds.length) := rfl
theorem gLen_tup : gLen [.tup ds] = some (.int ds.length) := rfl
theorem gIx_tup {i : Int} : gIx (.tup ds) (.int i) = atI ds i := rfl
theorem gIx_lst {i : Int} : gIx (.lst ds) (.int i) = atI ds i := rfl
theorem mkTup_ok : mkTup ds = if ds.length ≤ smallN then some (.tup ds) else none := rfl
theorem mkLst_ok : mkLst ds = if ds.length ≤ smallN then some (.lst ds) else none := rfl
theorem atI0 {a : α} {l : List α} : atI (a :: l) 0 = some a := atI_nat (j := 0) rfl
theorem atI1 {a b : α} {l : List α} : atI (a :: b :: l) 1 = some b := atI_nat (j := 1) rfl
theorem atI2 {a b c : α} {l : List α} : atI (a :: b :: c :: l) 2 = some c := atI_nat (j := 2) rfl
theorem atI3 {a b c d : α} {l : List α} : atI (a :: b :: c :: d :: l) 3 = some d := atI_nat (j := 3) rfl
theorem sm0 : (0 ≤ smallN) = True := eq_true (by decide)
theorem sm1 : (1 ≤ smallN) = True := eq_true (by decide)
theorem sm2 : (2 ≤ smallN) = True := eq_true (by decide)
theorem sm3 : (3 ≤ smallN) = True := eq_true (by decide)
theorem sm4 : (4 ≤ smallN) = True := eq_true (by decide)
theorem sm5 : (5 ≤ smallN) = True := eq_true (by decide)
theorem sm6 : (6 ≤ smallN) = True := eq_true (by decide)
theorem sm7 : (7 ≤ smallN) = True := eq_true (by decide)
theorem sm8 : (8 ≤ smallN) = True := eq_true (by decide)
theorem sml0 : (0 < smallN) = True := eq_true (by decide)
theorem gEq_int {i j : Int} : gEq (.int i) (.int j) = some (.bl (decide (i = j))) := by
  show some (D.bl (deq (.int i) (.int j))) = _
  unfold deq
  congr 1
theorem gNe_int {i j : Int} : gNe (.int i) (.int j) = some (.bl (!decide (i = j))) := by
  show some (D.bl (!deq (.int i) (.int j))) = _
  unfold deq
  congr 1
theorem max2_eq {i j : Int} : (if j > i then j else i) = max i j := by omega
theorem min2_eq {i j : Int} : (if j < i then j else i) = min i j := by omega
theorem abs_eq {i : Int} : (if i < 0 then -i else i) = (i.natAbs : Int) := by omega
mutual
theorem deq_self : ∀ (n : Nat) (d : D), okC n d = true → deq d d = true
  | _, .non, _ => by simp [deq]
  | _, .bl _, _ => by simp [deq]
  | _, .int _, _ => by simp [deq]
  | _, .str _, _ => by simp [deq]
  | 0, .lst _, h => by simp [okC] at h
  | 0, .tup _, h => by simp [okC] at h
  | n + 1, .lst ds, h => by simp only [okC] at h; simp only [deq]; exact deqs_self n ds h
  | n + 1, .tup ds, h => by simp only [okC] at h; simp only [deq]; exact deqs_self n ds h
  | n, .src, h => by cases n <;> simp [okC] at h
  | n, .scr _, h => by cases n <;> simp [okC] at h
theorem deqs_self : ∀ (n : Nat) (ds : List D), okCs n ds = true → deqs ds ds = true
  | _, [], _ => by simp [deqs]
  | n, d :: ds, h => by
    simp only [okCs, Bool.and_eq_true] at h
    simp only [deqs, deq_self n d h.1, deqs_self n ds h.2, Bool.and_self]
end
theorem gNe_self (h : cmpOk d = true) : gNe d d = some (.bl false) := by
  unfold gNe
  rw [h, deq_self 20 d h]
  rfl
theorem gEq_self (h : cmpOk d = true) : gEq d d = some (.bl true) := by
  unfold gEq
  rw [h, deq_self 20 d h]
  rfl
end
end PL
/-! QL: printed by gen.py: the meanings of shared defs. -/
namespace Q
open PySem PySem.Spec PyProof.Rows L2 PL
noncomputable def c1_number_part : FX Bool := fun ρ =>
    (asB (xBin gGt (xVar 3) (xC (.int 0)))) ρ
noncomputable def b1_number_part : FS := fun ρ =>
    (xPar 2 3 (xCons (xVar 3) (xCons (xBin gMod (xVar 2) (xVar 3)) xNil))) ρ
noncomputable def B_number_part : FS :=
    (xSeq (xPar 2 3 (xCons (xBlt gAbs (xCons (xVar 0) xNil)) (xCons (xBlt gAbs (xCons (xVar 1) xNil)) xNil)))
    (xSeq (xWhile c1_number_part b1_number_part)
    (xRet (xVar 2))))
noncomputable def F_number_part : DFun := runF 4 B_number_part
noncomputable def B_quotient_told : FS :=
    (xSeq (xAsg (xCall 2 F_number_part (xCons (xVar 0) (xCons (xVar 1) xNil))) (gN 2))
    (xRet (xIf (asB (xBin gGt (xVar 1) (xC (.int 0)))) (xTup (xCons (xBin gDiv (xVar 0) (xVar 2)) (xCons (xBin gDiv (xVar 1) (xVar 2)) xNil))) (xTup (xCons (xBin gDiv (xUn gNeg (xVar 0)) (xVar 2)) (xCons (xBin gDiv (xUn gNeg (xVar 1)) (xVar 2)) xNil))))))
noncomputable def F_quotient_told : DFun := runF 3 B_quotient_told
noncomputable def B_quotient_sum : FS :=
    (xRet (xCall 2 F_quotient_told (xCons (xBin gAdd (xBin gMulA (xIx (xVar 0) (xC (.int 0))) (xIx (xVar 1) (xC (.int 1)))) (xBin gMulA (xIx (xVar 1) (xC (.int 0))) (xIx (xVar 0) (xC (.int 1))))) (xCons (xBin gMulA (xIx (xVar 0) (xC (.int 1))) (xIx (xVar 1) (xC (.int 1)))) xNil))))
noncomputable def F_quotient_sum : DFun := runF 2 B_quotient_sum
noncomputable def B_quotient_less : FS :=
    (xRet (xCall 2 F_quotient_told (xCons (xBin gSub (xBin gMulA (xIx (xVar 0) (xC (.int 0))) (xIx (xVar 1) (xC (.int 1)))) (xBin gMulA (xIx (xVar 1) (xC (.int 0))) (xIx (xVar 0) (xC (.int 1))))) (xCons (xBin gMulA (xIx (xVar 0) (xC (.int 1))) (xIx (xVar 1) (xC (.int 1)))) xNil))))
noncomputable def F_quotient_less : DFun := runF 2 B_quotient_less
noncomputable def B_quotient_product : FS :=
    (xRet (xCall 2 F_quotient_told (xCons (xBin gMulA (xIx (xVar 0) (xC (.int 0))) (xIx (xVar 1) (xC (.int 0)))) (xCons (xBin gMulA (xIx (xVar 0) (xC (.int 1))) (xIx (xVar 1) (xC (.int 1)))) xNil))))
noncomputable def F_quotient_product : DFun := runF 2 B_quotient_product
noncomputable def B_is_below : FS :=
    (xRet (xBin gLt (xBin gMulA (xIx (xVar 0) (xC (.int 0))) (xIx (xVar 1) (xC (.int 1)))) (xBin gMulA (xIx (xVar 1) (xC (.int 0))) (xIx (xVar 0) (xC (.int 1))))))
noncomputable def F_is_below : DFun := runF 2 B_is_below
noncomputable def B_often_in : FS :=
    (xRet (xBin gDiv (xBin gMulA (xIx (xVar 0) (xC (.int 0))) (xIx (xVar 1) (xC (.int 1)))) (xBin gMulA (xIx (xVar 0) (xC (.int 1))) (xIx (xVar 1) (xC (.int 0))))))
noncomputable def F_often_in : DFun := runF 2 B_often_in
noncomputable def B_left_of : FS :=
    (xRet (xCall 2 F_quotient_less (xCons (xVar 0) (xCons (xCall 2 F_quotient_told (xCons (xBin gMulA (xCall 2 F_often_in (xCons (xVar 0) (xCons (xVar 1) xNil))) (xIx (xVar 1) (xC (.int 0)))) (xCons (xIx (xVar 1) (xC (.int 1))) xNil))) xNil))))
noncomputable def F_left_of : DFun := runF 2 B_left_of
noncomputable def B_begin_told : FS :=
    (xRet (xCall 2 F_quotient_sum (xCons (xVar 0) (xCons (xCall 2 F_quotient_told (xCons (xBin gMulA (xVar 2) (xIx (xVar 1) (xC (.int 0)))) (xCons (xIx (xVar 1) (xC (.int 1))) xNil))) xNil))))
noncomputable def F_begin_told : DFun := runF 3 B_begin_told
noncomputable def B_number_from : FS :=
    (xRet (xBlt gMax2 (xCons (xC (.int 0)) (xCons (xUn gNeg (xCall 2 F_often_in (xCons (xCall 2 F_quotient_less (xCons (xVar 0) (xCons (xVar 2) xNil))) (xCons (xVar 1) xNil)))) xNil))))
noncomputable def F_number_from : DFun := runF 3 B_number_from
noncomputable def B_begin_from : FS :=
    (xRet (xCall 3 F_begin_told (xCons (xVar 0) (xCons (xVar 1) (xCons (xCall 3 F_number_from (xCons (xVar 0) (xCons (xVar 1) (xCons (xVar 2) xNil)))) xNil)))))
noncomputable def F_begin_from : DFun := runF 3 B_begin_from
noncomputable def B_number_at : FS :=
    (xSeq (xIfS (asB (xCall 2 F_is_below (xCons (xVar 2) (xCons (xVar 0) xNil)))) (xRet (xC .non)) xNext)
    (xRet (xCall 2 F_often_in (xCons (xCall 2 F_quotient_less (xCons (xVar 2) (xCons (xVar 0) xNil))) (xCons (xVar 1) xNil)))))
noncomputable def F_number_at : DFun := runF 3 B_number_at
noncomputable def B_begins_between : FS :=
    (xRet (xBin gSub (xCall 3 F_number_from (xCons (xVar 0) (xCons (xVar 1) (xCons (xVar 3) xNil)))) (xCall 3 F_number_from (xCons (xVar 0) (xCons (xVar 1) (xCons (xVar 2) xNil))))))
noncomputable def F_begins_between : DFun := runF 4 B_begins_between
noncomputable def b1__law_source : FS := fun ρ =>
    (xAsg (xBin gMod (xBlt gIntA (xCons (xBin gAdd (xBin gAdd (xBin gMulA (xVar 1) (xC (.int 69069))) (xBin gMulA (xVar 2) (xC (.int 31)))) (xC (.int 5))) xNil)) (xC (.int 2147483629))) (gN 1)) ρ
noncomputable def e1__law_source : FX D := fun ρ =>
    (xBlt gAbs (xCons (xVar 2) xNil)) ρ
noncomputable def B__law_source : FS :=
    (xSeq (xAsg (xC (.int 11)) (gN 1))
    (xSeq (xFor (xScrOf (xVar 0)) (gN 2) b1__law_source)
    (xRet (xSrcNew (xComp (xScrOf (xVar 0)) [2] (gN 2) xYes e1__law_source) (xVar 1)))))
noncomputable def F__law_source : DFun := runF 3 B__law_source
noncomputable def c1__law_pick : FX Bool := fun ρ =>
    (xAnd (asB (xBin gGt (xVar 1) (xC (.int 1)))) (xAnd (asB (xBin gLt (xSrcGet .left (xVar 0)) (xC (.int 2)))) (asB (xBin gGt (xSrcLen (xVar 0)) (xC (.int 0)))))) ρ
noncomputable def b1__law_pick : FS := fun ρ =>
    (xSrcPut .left (xSrcPop (xVar 0)) (xVar 0)) ρ
noncomputable def B__law_pick : FS :=
    (xSeq (xWhile c1__law_pick b1__law_pick)
    (xSeq (xAsg (xSrcGet .left (xVar 0)) (gN 2))
    (xSeq (xIfS (xOr (asB (xBin gLt (xVar 1) (xC (.int 2)))) (asB (xBin gGt (xVar 2) (xC (.int 1))))) (xSeq (xSrcPut .left (xBin gDiv (xVar 2) (xBlt gMax2 (xCons (xC (.int 1)) (xCons (xVar 1) xNil)))) (xVar 0))
    (xRet (xBin gMod (xBlt gIntA (xCons (xVar 2) xNil)) (xBlt gMax2 (xCons (xC (.int 1)) (xCons (xVar 1) xNil)))))) xNext)
    (xSeq (xSrcPut .turn (xBin gAdd (xSrcGet .turn (xVar 0)) (xC (.int 1))) (xVar 0))
    (xSeq (xAsg (xBin gMod (xBlt gIntA (xCons (xBin gAdd (xSrcGet .mixed (xVar 0)) (xBin gMulA (xSrcGet .turn (xVar 0)) (xC (.int 104729)))) xNil)) (xC (.int 998244353))) (gN 3))
    (xSeq (xAsg (xBin gMod (xBlt gIntA (xCons (xBin gAdd (xBin gMulA (xVar 3) (xVar 3)) (xBin gMulA (xSrcGet .turn (xVar 0)) (xC (.int 17)))) xNil)) (xC (.int 2147483647))) (gN 3))
    (xSeq (xSrcPut .mixed (xVar 3) (xVar 0))
    (xRet (xBin gMod (xBlt gIntA (xCons (xBin gDiv (xVar 3) (xC (.int 16))) xNil)) (xVar 1))))))))))
noncomputable def F__law_pick : DFun := runF 4 B__law_pick
noncomputable def B__law_of : FS :=
    (xRet (xIx (xVar 1) (xCall 2 F__law_pick (xCons (xVar 0) (xCons (xBlt gLen (xCons (xVar 1) xNil)) xNil)))))
noncomputable def F__law_of : DFun := runF 2 B__law_of
end Q
/-! QS: what the shared defs do. -/
namespace Q
open PySem PySem.Spec PyProof.Rows L2 PL
theorem gMulA_int' {i j : Int} : gMulA (.int i) (.int j) = if mulOk i j then some (.int (i * j)) else none := rfl
local macro_rules | `(tactic| walk_at "ev") => `(tactic| simp only [ev_run, stEnv, List.map, List.length, List.replicate, List.cons_append, List.nil_append, Nat.reduceSub, Nat.reduceAdd, Nat.sub_self, Nat.zero_add,
  xb_ok, xb_er, xb_none, xbS_ok, xbS_er, xbS_none, ret_some, ev_var, rdV_val, rdV_ml, env_mk, src_mk, ev_c, set_mk, List.set, List.getElem?_cons_zero, List.getElem?_cons_succ,
  ev_bin, ev_bin2, ev_bin1, ev_un, ev_un1, ev_blt, ev_blt1, ev_tup, ev_lst, ev_ix, ev_asB, ev_asB1, ev_and, ev_and_t, ev_and_f, ev_or, ev_or_t, ev_or_f, ev_not, ev_not1, ev_if, ev_if_t, ev_if_f, ev_toB, ev_toB1,
  ev_andV, ev_andV_t, ev_andV_f, ev_orV, ev_orV_t, ev_orV_f, ev_notV, ev_notV1, ev_nil, ev_cons, ev_cons1, ev_cons2,
  ev_seq, sq_nx, sq_rt, sq_er, sq_bk, sq_ct, ev_next, ev_break, ev_cont, ev_drop, ev_drop1, ev_ret, ev_ret1, ev_retN, ev_ifS, ev_ifS_t, ev_ifS_f, nxO_some, ev_asg, ev_asg1, ev_gN, ev_gTp, ev_gsNil, ev_gsCons, obS_some,
  lw_nx, lw_ct, lw_bk, lw_rt, lw_er, lp_nx, lp_ct, lp_bk, lp_rt, lp_er, ev_wh_t, ev_wh_f, cmpIf_ok,
  ev_new, ev_new1, ev_par, ev_par1, ev_parNew, ev_parNew1, ev_parNew2, ev_for, ev_for1, ev_forNil,
  ev_call, ev_call1, cR_ok, cR_er, end_rt, end_nx, end_er,
  ev_app, onMl_ml, ev_app1, ev_app2, ev_asL, mlOf_ml, ev_lenM, lenO_some,
  ev_get, ev_get1, ev_put, ev_put1, ev_put2, ev_slen, ev_slen1, ev_spop, ev_spop1, ev_spop2, ev_snew, ev_snew1, ev_scr, ev_scr1, ev_seqOf, ev_seqOf1, ev_tupOf, ev_tupOf1, ev_r1, ev_r11, ev_r2, ev_r21,
  ev_comp, cmpO_some, ev_cmpNil, cmpT_t, cmpT_f, ev_yes, backP_mk, wipeP_mk, wipeE, backE, Option.getD_some, Option.getD_none, onT_some, onG_some,
  gI_int, gAdd_int, gNeg_int, gAbs_int, gMax2_int, gMin2_int, gIntA_int, gIntA_bl, gLen_lst, gLen_tup, gIx_tup, gIx_lst, mkTup_ok, mkLst_ok, atI0, atI1, atI2, atI3, sm0, sm1, sm2, sm3, sm4, sm5, sm6, sm7, sm8, sml0, gEq_int, gNe_int,
  Fld.get, Fld.put, if_true, if_false, ite_true, ite_false, Bool.false_eq_true, decide_true, decide_false, not_true_eq_false, not_false_eq_true, Int.reduceLT, Int.reduceLE, Bool.not_true, Bool.not_false, ite_self, Int.reduceNeg, and_self, and_true, true_and, and_false, false_and, Int.reducePow])
local macro_rules | `(tactic| walk_at "evs") => `(tactic| simp only [ev_run, stEnv, List.map, List.length, List.replicate, List.cons_append, List.nil_append, Nat.reduceSub, Nat.reduceAdd, Nat.sub_self, Nat.zero_add,
  xb_ok, xb_er, xb_none, xbS_ok, xbS_er, xbS_none, ret_some, ev_var, rdV_val, rdV_ml, env_mk, src_mk, ev_c, set_mk, List.set, List.getElem?_cons_zero, List.getElem?_cons_succ,
  ev_bin, ev_bin2, ev_bin1, ev_un, ev_un1, ev_blt, ev_blt1, ev_tup, ev_lst, ev_ix, ev_asB, ev_asB1, ev_and, ev_and_t, ev_and_f, ev_or, ev_or_t, ev_or_f, ev_not, ev_not1, ev_if, ev_if_t, ev_if_f, ev_toB, ev_toB1,
  ev_andV, ev_andV_t, ev_andV_f, ev_orV, ev_orV_t, ev_orV_f, ev_notV, ev_notV1, ev_nil, ev_cons, ev_cons1, ev_cons2,
  ev_seq, sq_nx, sq_rt, sq_er, sq_bk, sq_ct, ev_next, ev_break, ev_cont, ev_drop, ev_drop1, ev_ret, ev_ret1, ev_retN, ev_ifS, ev_ifS_t, ev_ifS_f, nxO_some, ev_asg, ev_asg1, ev_gN, ev_gTp, ev_gsNil, ev_gsCons, obS_some,
  lw_nx, lw_ct, lw_bk, lw_rt, lw_er, lp_nx, lp_ct, lp_bk, lp_rt, lp_er, ev_wh_t, ev_wh_f, cmpIf_ok,
  ev_new, ev_new1, ev_par, ev_par1, ev_parNew, ev_parNew1, ev_parNew2, ev_for, ev_for1, ev_forNil,
  ev_call, ev_call1, cR_ok, cR_er, end_rt, end_nx, end_er,
  ev_app, onMl_ml, ev_app1, ev_app2, ev_asL, mlOf_ml, ev_lenM, lenO_some,
  ev_get, ev_get1, ev_put, ev_put1, ev_put2, ev_slen, ev_slen1, ev_spop, ev_spop1, ev_spop2, ev_snew, ev_snew1, ev_scr, ev_scr1, ev_seqOf, ev_seqOf1, ev_tupOf, ev_tupOf1, ev_r1, ev_r11, ev_r2, ev_r21,
  ev_comp, cmpO_some, ev_cmpNil, cmpT_t, cmpT_f, ev_yes, backP_mk, wipeP_mk, wipeE, backE, Option.getD_some, Option.getD_none, onT_some, onG_some,
  gI_int, gAdd_int, gNeg_int, gAbs_int, gMax2_int, gMin2_int, gIntA_int, gIntA_bl, gLen_lst, gLen_tup, gIx_tup, gIx_lst, mkTup_ok, mkLst_ok, atI0, atI1, atI2, atI3, sm0, sm1, sm2, sm3, sm4, sm5, sm6, sm7, sm8, sml0, gEq_int, gNe_int,
  Fld.get, Fld.put, if_true, if_false, ite_true, ite_false, Bool.false_eq_true, decide_true, decide_false, not_true_eq_false, not_false_eq_true, Int.reduceLT, Int.reduceLE, Bool.not_true, Bool.not_false, ite_self, Int.reduceNeg, and_self, and_true, true_and, and_false, false_and, Int.reducePow,
  gIc_int, gMulA_int, *])
/-! ### the greatest common divisor -/
theorem gcd_step (h t : Int) : Int.gcd t (h % t) = Int.gcd h t := by
  rw [Int.emod_def, Int.mul_comm, Int.gcd_sub_mul_right_right, Int.gcd_comm]
theorem euclid (n : Nat) : ∀ (x y : D) (h t : Int) (s : Option Src), 0 ≤ h → 0 ≤ t → t.toNat < n →
    xWhileN c1_number_part b1_number_part n
      ⟨[some (.val x), some (.val y), some (.val (.int h)), some (.val (.int t))], s⟩ = some (.nx ⟨[some (.val x), some (.val y), some (.val (.int (Int.gcd h t))), some (.val (.int 0))], s⟩) := by
  induction n with
  | zero => intro x y h t s _ _ h3; omega
  | succ n ih =>
    intro x y h t s h1 h2 h3
    rw [ev_whN, c1_number_part]
    by_cases ht : 0 < t
    · have e := Int.emod_nonneg h (show t ≠ 0 by omega)
      have e2 := Int.emod_lt_of_pos h ht
      rw [← gcd_step, ← ih x y t (h % t) s h2 e (by omega)]
      clear ih e e2
      walk_at "evs"
      rw [b1_number_part]
      walk_at "evs"
    · have : t = 0 := by omega
      subst this
      walk_at "evs"
      simp [Int.natAbs_of_nonneg h1]
theorem abs_if (a : Int) : (if a < 0 then -a else a) = (a.natAbs : Int) := by omega
theorem number_part_eq (a b : Int) (s : Option Src) : F_number_part [.int a, .int b] s = some (.ok (.int (Int.gcd a b)) s) := by
  unfold F_number_part B_number_part
  walk_at "ev"
  rw [abs_if, abs_if, xWhile_of (euclid (b.natAbs + 1) (.int a) (.int b) a.natAbs b.natAbs s (by omega) (by omega) (by omega))]
  walk_at "ev"
  simp [Int.gcd]
/-! ### sizes -/
/-- x is below 2 to the k -/
@[irreducible] def Bd (k x : Nat) : Prop := x < 2 ^ k
theorem Bd.mono {k l x : Nat} (h : Bd k x) (e : k ≤ l) : Bd l x := by
  unfold Bd at *
  exact Nat.lt_of_lt_of_le h (Nat.pow_le_pow_right (by decide) e)
theorem Bd.le {k x y : Nat} (h : Bd k x) (e : y ≤ x) : Bd k y := by
  unfold Bd at *
  exact Nat.lt_of_le_of_lt e h
theorem Bd.log {k x : Nat} (h : Bd k x) : x.log2 ≤ k := by
  have := Bd.mono h (Nat.le_succ k)
  unfold Bd at this
  exact Nat.le_of_lt_succ (PySem.Flt.log2_lt_of (n := x) (k := k + 1) (by omega) this)
theorem Bd.mul {a b : Nat} {i j : Int} (ha : Bd a i.natAbs) (hb : Bd b j.natAbs) : Bd (a + b) (i * j).natAbs := by
  unfold Bd at *
  rw [Int.natAbs_mul, Nat.pow_add]
  exact Nat.mul_lt_mul'' ha hb
theorem Bd.add {a : Nat} {i j : Int} (ha : Bd a i.natAbs) (hb : Bd a j.natAbs) : Bd (a + 1) (i + j).natAbs := by
  unfold Bd at *
  have := Int.natAbs_add_le i j
  rw [Nat.pow_succ]
  omega
theorem Bd.sub {a : Nat} {i j : Int} (ha : Bd a i.natAbs) (hb : Bd a j.natAbs) : Bd (a + 1) (i - j).natAbs := by
  unfold Bd at *
  have := Int.natAbs_sub_le i j
  rw [Nat.pow_succ]
  omega
theorem Bd.ok {a b : Nat} {i j : Int} (ha : Bd a i.natAbs) (hb : Bd b j.natAbs) (h : a + b ≤ 900000) : mulOk i j :=
  .inr (.inr (by have := ha.log; have := hb.log; omega))
theorem Bd.ofNat {k x : Nat} (h : Bd k x) : Bd k ((x : Nat) : Int).natAbs := by rw [Int.natAbs_natCast]; exact h
theorem bd_small {x : Nat} (k : Nat) (h : x < 2 ^ (min k 60)) : Bd k x := by
  unfold Bd
  exact Nat.lt_of_lt_of_le h (Nat.pow_le_pow_right (by decide) (Nat.min_le_left _ _))
theorem Bd.of {k x : Nat} (h : x < 2 ^ k) : Bd k x := by
  unfold Bd
  exact h
theorem div_okN {i : Int} {n : Nat} (h0 : 0 < n) (h : Bd 8500 n) : divOk i (n : Int) := by
  refine ⟨by omega, ?_⟩
  rw [Int.natAbs_natCast]
  have := h.log
  omega
/-! ### fractions -/
def fr (q : Rat) : D := .tup [.int q.num, .int q.den]
theorem quotient_told_eq (t b : Int) (s : Option Src) (h0 : b ≠ 0) (hb : Bd 8500 b.natAbs) : F_quotient_told [.int t, .int b] s = some (.ok (fr (Rat.divInt t b)) s) := by
  have g0 : 0 < Int.gcd t b := Int.gcd_pos_of_ne_zero_right _ h0
  have gl : Bd 8500 (Int.gcd t b) := hb.le (Nat.le_of_dvd (by omega) (by rw [Int.gcd_comm]; exact Int.gcd_dvd_natAbs_left ..))
  unfold F_quotient_told B_quotient_told
  walk_at "ev"
  rw [number_part_eq]
  have e1 := div_okN (i := t) g0 gl
  have e2 := div_okN (i := b) g0 gl
  have e3 := div_okN (i := -t) g0 gl
  have e4 := div_okN (i := -b) g0 gl
  unfold fr
  rw [Rat.num_divInt, Rat.den_divInt, if_neg h0, Int.gcd_comm b t]
  have hd : ((b.natAbs / Int.gcd t b : Nat) : Int) = (b.natAbs : Int) / (Int.gcd t b : Int) := Int.natCast_ediv _ _
  rw [hd]
  by_cases hp : 0 < b
  · clear hb h0 g0 gl hd
    rw [Int.sign_eq_one_of_pos hp, Int.one_mul, Int.natAbs_of_nonneg (by omega)]
    walk_at "evs"
  · have hn : b < 0 := by omega
    rw [Int.sign_eq_neg_one_of_neg hn, show ((b.natAbs : Nat) : Int) = -b by omega, Int.neg_mul, Int.one_mul]
    clear hb h0 g0 gl hd hn
    walk_at "evs"
/-- a fraction of numbers below 2 to the n -/
def Rb (n : Nat) (x : Rat) : Prop := Bd n x.num.natAbs ∧ Bd n x.den
theorem Rb.mono {n m : Nat} {x : Rat} (h : Rb n x) (l : n ≤ m) : Rb m x := ⟨h.1.mono l, h.2.mono l⟩
theorem Rb.divInt {t b : Int} {n : Nat} (h0 : b ≠ 0) (h1 : Bd n t.natAbs) (h2 : Bd n b.natAbs) : Rb n (Rat.divInt t b) := by
  constructor
  · rw [Rat.num_divInt]
    refine h1.le ?_
    rw [Int.natAbs_ediv_of_dvd]
    · refine Nat.le_trans (Nat.div_le_self _ _) ?_
      rw [Int.natAbs_mul]
      have : b.sign.natAbs = 1 := Int.natAbs_sign_of_ne_zero h0
      rw [this, Nat.one_mul]
      exact Nat.le_refl _
    · exact Int.dvd_mul_of_dvd_right (Int.gcd_dvd_right ..)
  · rw [Rat.den_divInt, if_neg h0]
    exact h2.le (Nat.div_le_self _ _)
theorem Rb.ofInt {i : Int} {n : Nat} (h : Bd n i.natAbs) (h0 : 0 < n) : Rb n (i : Rat) := by
  refine ⟨by simpa using h, ?_⟩
  have : ((i : Rat)).den = 1 := Rat.den_intCast ..
  rw [this]
  exact bd_small n (Nat.one_lt_two_pow (by omega))
/-! ### fractions as numbers -/
theorem den_pos (x : Rat) : (0 : Int) < x.den := by have := x.den_pos; omega
theorem den_abs (x : Rat) : ((x.den : Nat) : Int).natAbs = x.den := Int.natAbs_natCast _
theorem den_lt {n : Nat} {x : Rat} (h : Rb n x) : Bd n ((x.den : Nat) : Int).natAbs := by rw [den_abs]; exact h.2
theorem add_eq (x y : Rat) : Rat.divInt (x.num * y.den + y.num * x.den) (x.den * y.den) = x + y := by
  have := Rat.divInt_add_divInt x.num y.num (d₁ := x.den) (d₂ := y.den) (by have := den_pos x; omega) (by have := den_pos y; omega)
  rw [Rat.num_divInt_den, Rat.num_divInt_den] at this
  exact this.symm
theorem sub_eq (x y : Rat) : Rat.divInt (x.num * y.den - y.num * x.den) (x.den * y.den) = x - y := by
  have := Rat.divInt_sub_divInt x.num y.num (d₁ := x.den) (d₂ := y.den) (by have := den_pos x; omega) (by have := den_pos y; omega)
  rw [Rat.num_divInt_den, Rat.num_divInt_den] at this
  exact this.symm
theorem mul_eq (x y : Rat) : Rat.divInt (x.num * y.num) (x.den * y.den) = x * y := by
  have := Rat.divInt_mul_divInt x.num y.num (d₁ := x.den) (d₂ := y.den)
  rw [Rat.num_divInt_den, Rat.num_divInt_den] at this
  exact this.symm
theorem dd_ne (x y : Rat) : (x.den : Int) * y.den ≠ 0 := by
  have := Int.mul_pos (den_pos x) (den_pos y)
  omega
theorem Rb.add {n m : Nat} {x y : Rat} (hx : Rb n x) (hy : Rb m y) : Rb (n + m + 1) (x + y) := by
  rw [← add_eq]
  refine Rb.divInt (dd_ne x y) ?_ (((den_lt hx).mul (den_lt hy)).mono (by omega))
  exact (hx.1.mul (den_lt hy)).add (by rw [Nat.add_comm n m]; exact hy.1.mul (den_lt hx))
theorem Rb.sub {n m : Nat} {x y : Rat} (hx : Rb n x) (hy : Rb m y) : Rb (n + m + 1) (x - y) := by
  rw [← sub_eq]
  refine Rb.divInt (dd_ne x y) ?_ (((den_lt hx).mul (den_lt hy)).mono (by omega))
  exact (hx.1.mul (den_lt hy)).sub (by rw [Nat.add_comm n m]; exact hy.1.mul (den_lt hx))
theorem Rb.mul {n m : Nat} {x y : Rat} (hx : Rb n x) (hy : Rb m y) : Rb (n + m) (x * y) := by
  rw [← mul_eq]
  exact Rb.divInt (dd_ne x y) (hx.1.mul hy.1) ((den_lt hx).mul (den_lt hy))
section
variable {x y : Rat} (s : Option Src)
theorem quotient_sum_eq (hx : Rb 4000 x) (hy : Rb 4000 y) : F_quotient_sum [fr x, fr y] s = some (.ok (fr (x + y)) s) := by
  have m1 := Bd.ok hx.1 (den_lt hy) (by decide)
  have m2 := Bd.ok hy.1 (den_lt hx) (by decide)
  have m3 := Bd.ok (den_lt hx) (den_lt hy) (by decide)
  have l3 : Bd 8500 ((x.den : Int) * y.den).natAbs := ((den_lt hx).mul (den_lt hy)).mono (by decide)
  have e := quotient_told_eq (x.num * y.den + y.num * x.den) (x.den * y.den) s (dd_ne x y) l3
  rw [add_eq] at e
  clear hx hy l3
  unfold F_quotient_sum B_quotient_sum
  simp only [fr] at e ⊢
  walk_at "evs"
theorem quotient_less_eq (hx : Rb 4000 x) (hy : Rb 4000 y) : F_quotient_less [fr x, fr y] s = some (.ok (fr (x - y)) s) := by
  have m1 := Bd.ok hx.1 (den_lt hy) (by decide)
  have m2 := Bd.ok hy.1 (den_lt hx) (by decide)
  have m3 := Bd.ok (den_lt hx) (den_lt hy) (by decide)
  have l3 : Bd 8500 ((x.den : Int) * y.den).natAbs := ((den_lt hx).mul (den_lt hy)).mono (by decide)
  have e := quotient_told_eq (x.num * y.den - y.num * x.den) (x.den * y.den) s (dd_ne x y) l3
  rw [sub_eq] at e
  clear hx hy l3
  unfold F_quotient_less B_quotient_less
  simp only [fr] at e ⊢
  walk_at "evs"
theorem quotient_product_eq (hx : Rb 4000 x) (hy : Rb 4000 y) : F_quotient_product [fr x, fr y] s = some (.ok (fr (x * y)) s) := by
  have m1 := Bd.ok hx.1 hy.1 (by decide)
  have m3 := Bd.ok (den_lt hx) (den_lt hy) (by decide)
  have l3 : Bd 8500 ((x.den : Int) * y.den).natAbs := ((den_lt hx).mul (den_lt hy)).mono (by decide)
  have e := quotient_told_eq (x.num * y.num) (x.den * y.den) s (dd_ne x y) l3
  rw [mul_eq] at e
  clear hx hy l3
  unfold F_quotient_product B_quotient_product
  simp only [fr] at e ⊢
  walk_at "evs"
theorem is_below_eq (hx : Rb 4000 x) (hy : Rb 4000 y) : F_is_below [fr x, fr y] s = some (.ok (.bl (decide (x < y))) s) := by
  have m1 := Bd.ok hx.1 (den_lt hy) (by decide)
  have m2 := Bd.ok hy.1 (den_lt hx) (by decide)
  have e := Rat.lt_iff x y
  clear hx hy
  unfold F_is_below B_is_below
  simp only [fr]
  walk_at "evs"
theorem floor_div (a b : Int) (hb : 0 < b) : ((a : Rat) / (b : Rat)).floor = a / b := by
  have hb' : (0 : Rat) < (b : Rat) := Rat.intCast_pos.mpr hb
  apply Int.le_antisymm
  · rw [Int.le_ediv_iff_mul_le hb]
    have h := Rat.floor_le ((a : Rat) / (b : Rat))
    have h2 : (((a : Rat) / (b : Rat)).floor : Rat) * (b : Rat) ≤ (a : Rat) := by
      have := Rat.mul_le_mul_of_nonneg_right h (Rat.le_of_lt hb')
      rwa [Rat.div_mul_cancel (by grind)] at this
    exact Rat.intCast_le_intCast.mp (by rw [Rat.intCast_mul]; exact h2)
  · rw [Rat.le_floor_iff]
    have h := Int.ediv_mul_le a (show b ≠ 0 by omega)
    have h2 : ((a / b : Int) : Rat) * (b : Rat) ≤ (a : Rat) := by rw [← Rat.intCast_mul]; exact Rat.intCast_le_intCast.mpr h
    exact Rat.not_lt.mp (fun h3 => Rat.not_lt.mpr h2 ((Rat.div_lt_iff hb').mp h3))
theorem often_in_eq (hx : Rb 4000 x) (hy : Rb 4000 y) (h0 : 0 < y) : F_often_in [fr x, fr y] s = some (.ok (.int (x / y).floor) s) := by
  have m1 := Bd.ok hx.1 (den_lt hy) (by decide)
  have m2 := Bd.ok (den_lt hx) hy.1 (by decide)
  have n0 : 0 < y.num := by
    have := (Rat.lt_iff 0 y).mp h0
    simpa using this
  have p : 0 < (x.den : Int) * y.num := Int.mul_pos (den_pos x) n0
  have d1 : divOk (x.num * y.den) (x.den * y.num) := ⟨p, by
    have := ((den_lt hx).mul hy.1).log
    omega⟩
  have e : (x / y).floor = (x.num * y.den) / (x.den * y.num) := by
    rw [← floor_div _ _ p]
    congr 1
    rw [← Rat.divInt_eq_div, Rat.div_def]
    have := Rat.divInt_mul_divInt x.num y.den (d₁ := x.den) (d₂ := y.num)
    rw [Rat.num_divInt_den] at this
    rw [← this, ← Rat.inv_divInt, Rat.num_divInt_den]
  clear hx hy
  unfold F_often_in B_often_in
  simp only [fr]
  walk_at "evs"
theorem floor_bd (a b : Int) (hb : 0 < b) : (a / b).natAbs ≤ a.natAbs := Int.natAbs_ediv_le_natAbs a b
theorem num_pos' {y : Rat} (h0 : 0 < y) : 0 < y.num := by
  have := (Rat.lt_iff 0 y).mp h0
  simpa using this
theorem div_floor (x y : Rat) (h0 : 0 < y) : (x / y).floor = (x.num * y.den) / (x.den * y.num) := by
  have p : 0 < (x.den : Int) * y.num := Int.mul_pos (den_pos x) (num_pos' h0)
  rw [← floor_div _ _ p]
  congr 1
  rw [← Rat.divInt_eq_div, Rat.div_def]
  have := Rat.divInt_mul_divInt x.num y.den (d₁ := x.den) (d₂ := y.num)
  rw [Rat.num_divInt_den] at this
  rw [← this, ← Rat.inv_divInt, Rat.num_divInt_den]
theorem Rb.floor {n m : Nat} {x y : Rat} (hx : Rb n x) (hy : Rb m y) (h0 : 0 < y) : Bd (n + m) (x / y).floor.natAbs := by
  rw [div_floor x y h0]
  exact (hx.1.mul (den_lt hy)).le (floor_bd _ _ (Int.mul_pos (den_pos x) (num_pos' h0)))
theorem Bd.neg {k : Nat} {i : Int} (h : Bd k i.natAbs) : Bd k (-i).natAbs := by rw [Int.natAbs_neg]; exact h
theorem Bd.max0 {k : Nat} {i : Int} (h : Bd k i.natAbs) : Bd k (max 0 i).natAbs := h.le (by omega)
theorem den_ne (x : Rat) : (x.den : Int) ≠ 0 := by have := den_pos x; omega
theorem int_mul_eq (n : Int) (p : Rat) : Rat.divInt (n * p.num) p.den = (n : Rat) * p := by
  have := Rat.divInt_mul_divInt n p.num (d₁ := 1) (d₂ := p.den)
  rw [Rat.num_divInt_den, Int.one_mul] at this
  rw [← this, Rat.divInt_eq_div n 1]
  congr 1
  grind
/-- n periods, told -/
theorem told_mul_eq (n : Int) {p : Rat} (hp : Rb 4000 p) : F_quotient_told [.int (n * p.num), .int p.den] s = some (.ok (fr ((n : Rat) * p)) s) := by
  rw [quotient_told_eq _ _ s (den_ne p) ((den_lt hp).mono (by decide)), int_mul_eq]
theorem begin_told_eq {o p : Rat} {n : Int} (ho : Rb 4000 o) (hp : Rb 2000 p) (hn : Bd 2000 n.natAbs) : F_begin_told [fr o, fr p, .int n] s = some (.ok (fr (o + (n : Rat) * p)) s) := by
  have m1 := Bd.ok hn hp.1 (by decide)
  have e1 := told_mul_eq s n (hp.mono (by decide : 2000 ≤ 4000))
  have e2 := quotient_sum_eq s ho (((Rb.ofInt hn (by decide)).mul hp).mono (by decide : 2000 + 2000 ≤ 4000))
  clear ho hp hn
  unfold F_begin_told B_begin_told
  simp only [fr] at e1 e2 ⊢
  walk_at "evs"
theorem left_of_eq (hx : Rb 1900 x) (hy : Rb 900 y) (h0 : 0 < y) : F_left_of [fr x, fr y] s = some (.ok (fr (x - ((x / y).floor : Rat) * y)) s) := by
  have m1 := Bd.ok (hx.floor hy h0) hy.1 (by decide)
  have e0 := often_in_eq s (hx.mono (by decide : 1900 ≤ 4000)) (hy.mono (by decide : 900 ≤ 4000)) h0
  have e1 := told_mul_eq s (x / y).floor (hy.mono (by decide : 900 ≤ 4000))
  have e2 := quotient_less_eq s (hx.mono (by decide : 1900 ≤ 4000)) (((Rb.ofInt (hx.floor hy h0) (by decide)).mul hy).mono (by decide : 1900 + 900 + 900 ≤ 4000))
  clear hx hy
  unfold F_left_of B_left_of
  simp only [fr] at e0 e1 e2 ⊢
  walk_at "evs"
def nfr (o p m : Rat) : Int := max 0 (-((o - m) / p).floor)
theorem nfr_bd {o p m : Rat} (ho : Rb 990 o) (hp : Rb 990 p) (hm : Rb 990 m) (h0 : 0 < p) : Bd 2971 (nfr o p m).natAbs := ((ho.sub hm).floor hp h0).neg.max0
theorem max2_eq {i j : Int} : (if i < j then j else i) = max i j := by omega
theorem number_from_eq {o p m : Rat} (ho : Rb 1900 o) (hp : Rb 4000 p) (hm : Rb 1900 m) (h0 : 0 < p) : F_number_from [fr o, fr p, fr m] s = some (.ok (.int (nfr o p m)) s) := by
  have e1 := quotient_less_eq s (ho.mono (by decide : 1900 ≤ 4000)) (hm.mono (by decide : 1900 ≤ 4000))
  have e2 := often_in_eq s ((ho.sub hm).mono (by decide : 1900 + 1900 + 1 ≤ 4000)) hp h0
  clear ho hp hm
  unfold F_number_from B_number_from nfr
  simp only [fr] at e1 e2 ⊢
  walk_at "evs"
  try rw [max2_eq]
theorem begin_from_eq {o p m : Rat} (ho : Rb 990 o) (hp : Rb 990 p) (hm : Rb 990 m) (h0 : 0 < p) : F_begin_from [fr o, fr p, fr m] s = some (.ok (fr (o + (nfr o p m : Rat) * p)) s) := by
  have e1 := number_from_eq s (ho.mono (by decide : 990 ≤ 1900)) (hp.mono (by decide : 990 ≤ 4000)) (hm.mono (by decide : 990 ≤ 1900)) h0
  have hn := nfr_bd ho hp hm h0
  have m1 := Bd.ok hn hp.1 (by decide)
  have e2 := told_mul_eq s (nfr o p m) (hp.mono (by decide : 990 ≤ 4000))
  have e3 := quotient_sum_eq s (ho.mono (by decide : 990 ≤ 4000)) (((Rb.ofInt hn (by decide)).mul hp).mono (by decide : 2971 + 990 ≤ 4000))
  clear ho hp hm hn
  unfold F_begin_from B_begin_from F_begin_told B_begin_told
  simp only [fr] at e1 e2 e3 ⊢
  walk_at "evs"
theorem number_at_eq {o p m : Rat} (ho : Rb 1900 o) (hp : Rb 4000 p) (hm : Rb 1900 m) (h0 : 0 < p) : F_number_at [fr o, fr p, fr m] s = some (.ok (if m < o then .non else .int ((m - o) / p).floor) s) := by
  have e0 := is_below_eq s (hm.mono (by decide : 1900 ≤ 4000)) (ho.mono (by decide : 1900 ≤ 4000))
  have e1 := quotient_less_eq s (hm.mono (by decide : 1900 ≤ 4000)) (ho.mono (by decide : 1900 ≤ 4000))
  have e2 := often_in_eq s ((hm.sub ho).mono (by decide : 1900 + 1900 + 1 ≤ 4000)) hp h0
  clear ho hp hm
  unfold F_number_at B_number_at
  simp only [fr] at e0 e1 e2 ⊢
  by_cases h : m < o
  · simp only [h, decide_true] at e0
    walk_at "evs"
  · simp only [h, decide_false, Bool.false_eq_true] at e0
    walk_at "evs"
theorem begins_between_eq {o p m m' : Rat} (ho : Rb 1900 o) (hp : Rb 4000 p) (hm : Rb 1900 m) (hm' : Rb 1900 m') (h0 : 0 < p) : F_begins_between [fr o, fr p, fr m, fr m'] s = some (.ok (.int (nfr o p m' - nfr o p m)) s) := by
  have e1 := number_from_eq s ho hp hm h0
  have e2 := number_from_eq s ho hp hm' h0
  clear ho hp hm hm'
  unfold F_begins_between B_begins_between
  simp only [fr] at e1 e2 ⊢
  walk_at "evs"
theorem q_div {b p : Int} (hb : 0 < b) (hp : 0 < p) (o m : Int) : (Rat.divInt o b - Rat.divInt m b) / Rat.divInt p b = ((o - m : Int) : Rat) / (p : Rat) := by
  have hb' : (b : Rat) ≠ 0 := by
    intro h; have := Rat.intCast_inj.mp (show ((b : Int) : Rat) = ((0 : Int) : Rat) from h); omega
  have hp' : (p : Rat) ≠ 0 := by
    intro h; have := Rat.intCast_inj.mp (show ((p : Int) : Rat) = ((0 : Int) : Rat) from h); omega
  rw [Rat.divInt_eq_div, Rat.divInt_eq_div, Rat.divInt_eq_div, Rat.intCast_sub]
  grind
theorem q_add (a c b : Int) : Rat.divInt a b + Rat.divInt c b = Rat.divInt (a + c) b := by
  rw [Rat.divInt_eq_div, Rat.divInt_eq_div, Rat.divInt_eq_div, Rat.intCast_add]
  grind
theorem q_mul (n c b : Int) : (n : Rat) * Rat.divInt c b = Rat.divInt (n * c) b := by
  rw [Rat.divInt_eq_div, Rat.divInt_eq_div, Rat.intCast_mul]
  grind
theorem q_lt {b : Int} (hb : 0 < b) (a c : Int) : Rat.divInt a b < Rat.divInt c b ↔ a < c := by
  rw [Rat.divInt_eq_div, Rat.divInt_eq_div]
  have hb' : (0 : Rat) < (b : Rat) := Rat.intCast_pos.mpr hb
  rw [Rat.div_lt_iff hb', Rat.div_mul_cancel (by grind)]
  exact Rat.intCast_lt_intCast
theorem q_self {a b : Int} (hb : b ≠ 0) (c : Int) : Rat.divInt (c * a) (c * b) = if c = 0 then 0 else Rat.divInt a b := by
  by_cases h : c = 0
  · rw [if_pos h, h, Int.zero_mul, Int.zero_mul, Rat.divInt_zero]
  · rw [if_neg h]
    exact Rat.divInt_mul_left h
theorem q_zero (b : Int) : Rat.divInt 0 b = 0 := Rat.zero_divInt ..
theorem fr_int (n : Int) : fr (n : Rat) = .tup [.int n, .int 1] := by
  unfold fr
  rw [Rat.num_intCast, Rat.den_intCast]
  rfl
theorem ne_fr (x : Rat) : gNe (fr x) (fr x) = some (.bl false) := gNe_self rfl
theorem eq_fr (x : Rat) : gEq (fr x) (fr x) = some (.bl true) := gEq_self rfl
/-- the number of the first begin at or after m -/
def nf (o p m : Int) : Nat := (-((o - m) / p)).toNat
theorem nf_le {o p m : Int} (hp : 0 < p) (i : Nat) : m ≤ o + i * p ↔ nf o p m ≤ i := by
  unfold nf
  have h1 := Int.ediv_mul_le (o - m) (show p ≠ 0 by omega)
  have h2 := Int.lt_ediv_add_one_mul_self (o - m) hp
  constructor
  · intro h
    have : -(i : Int) ≤ (o - m) / p := (Int.le_ediv_iff_mul_le hp).mpr (by rw [Int.neg_mul]; omega)
    omega
  · intro h
    have h3 : -(i : Int) ≤ (o - m) / p := by omega
    have := (Int.le_ediv_iff_mul_le hp).mp h3
    rw [Int.neg_mul] at this
    omega
theorem nf_mono {o p m m' : Int} (hp : 0 < p) (h : m ≤ m') : nf o p m ≤ nf o p m' := by
  refine (nf_le hp _).mp ?_
  have := (nf_le (o := o) (m := m') hp (nf o p m')).mpr (Nat.le_refl _)
  omega
theorem nf_at {o p : Int} (hp : 0 < p) (n : Nat) : nf o p (o + n * p) = n := by
  unfold nf
  rw [show o - (o + n * p) = (-(n : Int)) * p by rw [Int.neg_mul]; omega, Int.mul_ediv_cancel _ (show p ≠ 0 by omega)]
  omega
theorem nf_low {o p m : Int} (hp : 0 < p) (h : m ≤ o) : nf o p m = 0 := by
  have := (nf_le (o := o) (m := m) hp 0).mp (by simpa using h)
  omega
theorem nfr_q {o p m b : Int} (hb : 0 < b) (hp : 0 < p) : nfr (Rat.divInt o b) (Rat.divInt p b) (Rat.divInt m b) = (nf o p m : Int) := by
  unfold nfr nf
  rw [q_div hb hp o m, floor_div (o - m) p hp]
  omega
theorem q_pos {p b : Int} (hp : 0 < p) (hb : 0 < b) : 0 < Rat.divInt p b := by
  have := (q_lt hb 0 p).mpr hp
  rw [q_zero] at this
  exact this
theorem Rb.q {t b : Int} {n : Nat} (h0 : 0 < b) (h1 : Bd n t.natAbs) (h2 : Bd n b.natAbs) : Rb n (Rat.divInt t b) := Rb.divInt (by omega) h1 h2
end
end Q
/-! QP: the source and the picks. -/
namespace Q
open PySem PySem.Spec PyProof.Rows L2 PL
theorem mulOk_r {i j : Int} (h : -(2 ^ 64) < j ∧ j < 2 ^ 64) : mulOk i j := .inr (.inl h)
theorem mulOk_l {i j : Int} (h : -(2 ^ 64) < i ∧ i < 2 ^ 64) : mulOk i j := .inl h
theorem divOk_s {i j : Int} (h : 0 < j) (h2 : Bd 8500 j.natAbs) : divOk i j := ⟨h, by have := h2.log; omega⟩
local macro_rules | `(tactic| walk_at "ev") => `(tactic| simp only [ev_run, stEnv, List.map, List.length, List.replicate, List.cons_append, List.nil_append, Nat.reduceSub, Nat.reduceAdd, Nat.sub_self, Nat.zero_add,
  xb_ok, xb_er, xb_none, xbS_ok, xbS_er, xbS_none, ret_some, ev_var, rdV_val, rdV_ml, env_mk, src_mk, ev_c, set_mk, List.set, List.getElem?_cons_zero, List.getElem?_cons_succ,
  ev_bin, ev_bin2, ev_bin1, ev_un, ev_un1, ev_blt, ev_blt1, ev_tup, ev_lst, ev_ix, ev_asB, ev_asB1, ev_and, ev_and_t, ev_and_f, ev_or, ev_or_t, ev_or_f, ev_not, ev_not1, ev_if, ev_if_t, ev_if_f, ev_toB, ev_toB1,
  ev_andV, ev_andV_t, ev_andV_f, ev_orV, ev_orV_t, ev_orV_f, ev_notV, ev_notV1, ev_nil, ev_cons, ev_cons1, ev_cons2,
  ev_seq, sq_nx, sq_rt, sq_er, sq_bk, sq_ct, ev_next, ev_break, ev_cont, ev_drop, ev_drop1, ev_ret, ev_ret1, ev_retN, ev_ifS, ev_ifS_t, ev_ifS_f, nxO_some, ev_asg, ev_asg1, ev_gN, ev_gTp, ev_gsNil, ev_gsCons, obS_some,
  lw_nx, lw_ct, lw_bk, lw_rt, lw_er, lp_nx, lp_ct, lp_bk, lp_rt, lp_er, ev_wh_t, ev_wh_f, cmpIf_ok,
  ev_new, ev_new1, ev_par, ev_par1, ev_parNew, ev_parNew1, ev_parNew2, ev_for, ev_for1, ev_forNil,
  ev_call, ev_call1, cR_ok, cR_er, end_rt, end_nx, end_er,
  ev_app, onMl_ml, ev_app1, ev_app2, ev_asL, mlOf_ml, ev_lenM, lenO_some,
  ev_get, ev_get1, ev_put, ev_put1, ev_put2, ev_slen, ev_slen1, ev_spop, ev_spop1, ev_spop2, ev_snew, ev_snew1, ev_scr, ev_scr1, ev_seqOf, ev_seqOf1, ev_tupOf, ev_tupOf1, ev_r1, ev_r11, ev_r2, ev_r21,
  ev_comp, cmpO_some, ev_cmpNil, cmpT_t, cmpT_f, ev_yes, backP_mk, wipeP_mk, wipeE, backE, Option.getD_some, Option.getD_none, onT_some, onG_some,
  gI_int, gAdd_int, gNeg_int, gAbs_int, gMax2_int, gMin2_int, gIntA_int, gIntA_bl, gLen_lst, gLen_tup, gIx_tup, gIx_lst, mkTup_ok, mkLst_ok, atI0, atI1, atI2, atI3, sm0, sm1, sm2, sm3, sm4, sm5, sm6, sm7, sm8, sml0, gEq_int, gNe_int,
  Fld.get, Fld.put, if_true, if_false, ite_true, ite_false, Bool.false_eq_true, decide_true, decide_false, not_true_eq_false, not_false_eq_true, Int.reduceLT, Int.reduceLE, Bool.not_true, Bool.not_false, ite_self, Int.reduceNeg, and_self, and_true, true_and, and_false, false_and, Int.reducePow])
local macro_rules | `(tactic| walk_at "evs") => `(tactic| simp only [ev_run, stEnv, List.map, List.length, List.replicate, List.cons_append, List.nil_append, Nat.reduceSub, Nat.reduceAdd, Nat.sub_self, Nat.zero_add,
  xb_ok, xb_er, xb_none, xbS_ok, xbS_er, xbS_none, ret_some, ev_var, rdV_val, rdV_ml, env_mk, src_mk, ev_c, set_mk, List.set, List.getElem?_cons_zero, List.getElem?_cons_succ,
  ev_bin, ev_bin2, ev_bin1, ev_un, ev_un1, ev_blt, ev_blt1, ev_tup, ev_lst, ev_ix, ev_asB, ev_asB1, ev_and, ev_and_t, ev_and_f, ev_or, ev_or_t, ev_or_f, ev_not, ev_not1, ev_if, ev_if_t, ev_if_f, ev_toB, ev_toB1,
  ev_andV, ev_andV_t, ev_andV_f, ev_orV, ev_orV_t, ev_orV_f, ev_notV, ev_notV1, ev_nil, ev_cons, ev_cons1, ev_cons2,
  ev_seq, sq_nx, sq_rt, sq_er, sq_bk, sq_ct, ev_next, ev_break, ev_cont, ev_drop, ev_drop1, ev_ret, ev_ret1, ev_retN, ev_ifS, ev_ifS_t, ev_ifS_f, nxO_some, ev_asg, ev_asg1, ev_gN, ev_gTp, ev_gsNil, ev_gsCons, obS_some,
  lw_nx, lw_ct, lw_bk, lw_rt, lw_er, lp_nx, lp_ct, lp_bk, lp_rt, lp_er, ev_wh_t, ev_wh_f, cmpIf_ok,
  ev_new, ev_new1, ev_par, ev_par1, ev_parNew, ev_parNew1, ev_parNew2, ev_for, ev_for1, ev_forNil,
  ev_call, ev_call1, cR_ok, cR_er, end_rt, end_nx, end_er,
  ev_app, onMl_ml, ev_app1, ev_app2, ev_asL, mlOf_ml, ev_lenM, lenO_some,
  ev_get, ev_get1, ev_put, ev_put1, ev_put2, ev_slen, ev_slen1, ev_spop, ev_spop1, ev_spop2, ev_snew, ev_snew1, ev_scr, ev_scr1, ev_seqOf, ev_seqOf1, ev_tupOf, ev_tupOf1, ev_r1, ev_r11, ev_r2, ev_r21,
  ev_comp, cmpO_some, ev_cmpNil, cmpT_t, cmpT_f, ev_yes, backP_mk, wipeP_mk, wipeE, backE, Option.getD_some, Option.getD_none, onT_some, onG_some,
  gI_int, gAdd_int, gNeg_int, gAbs_int, gMax2_int, gMin2_int, gIntA_int, gIntA_bl, gLen_lst, gLen_tup, gIx_tup, gIx_lst, mkTup_ok, mkLst_ok, atI0, atI1, atI2, atI3, sm0, sm1, sm2, sm3, sm4, sm5, sm6, sm7, sm8, sml0, gEq_int, gNe_int,
  Fld.get, Fld.put, if_true, if_false, ite_true, ite_false, Bool.false_eq_true, decide_true, decide_false, not_true_eq_false, not_false_eq_true, Int.reduceLT, Int.reduceLE, Bool.not_true, Bool.not_false, ite_self, Int.reduceNeg, and_self, and_true, true_and, and_false, false_and, Int.reducePow,
  gIc_int, gMulA_int, *])
theorem src_for : ∀ (ns : List Int) (m : Int) (s : D) (c : Option Sl) (src : Option Src), (∀ l, c ≠ some (.ml l)) → ∃ m' c', (∀ l, c' ≠ some (.ml l)) ∧
    xForL (gN 2) b1__law_source (ns.map D.int) ⟨[some (.val s), some (.val (.int m)), c], src⟩
      = some (.nx ⟨[some (.val s), some (.val (.int m')), c'], src⟩)
  | [], m, s, c, src, h => ⟨m, c, h, rfl⟩
  | n :: ns, m, s, c, src, hc => by
    obtain ⟨m', c', h0, h⟩ := src_for ns ((m * 69069 + n * 31 + 5) % 2147483629) s (some (.val (.int n))) src (fun l e => by cases e)
    refine ⟨m', c', h0, ?_⟩
    rw [← h]
    have m1 : mulOk m 69069 := mulOk_r (by decide)
    have m2 : mulOk n 31 := mulOk_r (by decide)
    rw [List.map_cons, ev_forCons]
    clear h hc h0
    walk_at "evs"
    rw [b1__law_source]
    walk_at "evs"
theorem abs_comp : ∀ (ns : List Int) (acc : List Int) (a b c : Option Sl) (src : Option Src), ns.length + acc.length ≤ smallN → ∃ out : List Int,
    xCompL [2] (gN 2) xYes e1__law_source (ns.map D.int) (acc.map D.int) ⟨[a, b, c], src⟩ = some (out.map D.int, ⟨[a, b, c], src⟩)
  | [], acc, a, b, c, src, _ => ⟨acc, rfl⟩
  | n :: ns, acc, a, b, c, src, hl => by
    obtain ⟨out, h⟩ := abs_comp ns (acc ++ [if n < 0 then -n else n]) a b c src (by simp at hl ⊢; omega)
    refine ⟨out, ?_⟩
    rw [← h]
    rw [List.map_cons]
    rw [ev_cmpCons]
    walk_at "ev"
    rw [e1__law_source]
    walk_at "ev"
    have l : (acc.map D.int).length < smallN := by rw [List.length_map]; simp at hl; omega
    rw [if_pos l]
    rw [List.map_append]
    rfl
theorem intsOf_map : ∀ ns : List Int, intsOf (ns.map D.int) = some ns
  | [] => rfl
  | n :: ns => by rw [List.map_cons, intsOf, intsOf_map ns]; rfl
theorem src_eq (ns : List Int) (h : ns.length ≤ 63) : ∃ s, F__law_source [.scr ns] none = some (.ok .src (some s)) := by
  obtain ⟨m, c, hc, e1⟩ := src_for ns 11 (.scr ns) none none (fun l e => by cases e)
  obtain ⟨out, e2⟩ := abs_comp ns [] (some (.val (.scr ns))) (some (.val (.int m))) c none (by unfold smallN; simp; omega)
  have nm : noMl [2] ⟨[some (.val (.scr ns)), some (.val (.int m)), c], none⟩ = true := by
    cases c with
    | none => rfl
    | some x =>
      cases x with
      | val d => rfl
      | ml l => exact absurd rfl (hc l)
  unfold F__law_source B__law_source
  walk_at "ev"
  rw [e1]
  walk_at "ev"
  rw [ev_cmp1 nm]
  rw [List.map] at e2
  rw [e2]
  walk_at "ev"
  unfold mkSrc
  simp only [intsOf_map]
  walk_at "ev"
  exact ⟨_, rfl⟩
theorem pop_loop (many : Int) : ∀ (n : Nat) (s : Src) (a b : Option Sl), s.cells.length < n → ∃ s',
    xWhileN c1__law_pick b1__law_pick n
      ⟨[some (.val .src), some (.val (.int many)), a, b], some s⟩ = some (.nx ⟨[some (.val .src), some (.val (.int many)), a, b], some s'⟩) := by
  intro n
  induction n with
  | zero => intro s a b h; omega
  | succ n ih =>
    intro s a b h
    rw [ev_whN, c1__law_pick]
    by_cases h1 : (1 : Int) < many
    case neg => exact ⟨s, by walk_at "evs"⟩
    by_cases h2 : s.left < 2
    case neg => exact ⟨s, by clear ih; walk_at "evs"⟩
    by_cases h3 : (0 : Int) < s.cells.length
    case neg => exact ⟨s, by clear ih; walk_at "evs"⟩
    have hl : s.cells.length - 1 < s.cells.length := by omega
    have hg := List.getElem?_eq_getElem hl
    obtain ⟨s', e⟩ := ih { s with cells := s.cells.dropLast, left := s.cells[s.cells.length - 1] } a b (by simp; omega)
    refine ⟨s', ?_⟩
    rw [← e]
    clear e ih
    walk_at "evs"
    rw [b1__law_pick]
    walk_at "evs"
theorem pick_eq (s : Src) (many : Int) (hm : Bd 8500 many.natAbs) : ∃ r s', F__law_pick [.src, .int many] (some s) = some (.ok (.int r) (some s')) ∧ 0 ≤ r ∧ r < max 1 many := by
  obtain ⟨s1, e1⟩ := pop_loop many (s.cells.length + 1) s none none (by omega)
  unfold F__law_pick B__law_pick
  walk_at "ev"
  rw [xWhile_of e1]
  walk_at "ev"
  have q : ∀ i : Int, divOk i (max 1 many) := fun i => divOk_s (by omega) (by
    by_cases h : (1 : Int) ≤ many
    · rw [Int.max_eq_right h]; exact hm
    · rw [Int.max_eq_left (by omega)]; exact bd_small 8500 (by decide))
  have e3 : (if many > (1 : Int) then many else 1) = max 1 many := max2_eq
  by_cases h : many < 2 ∨ 1 < s1.left
  · have hp : 0 < max 1 many := by omega
    clear e1 hm
    have fin : ∀ i : Int, 0 ≤ i % max 1 many ∧ i % max 1 many < max 1 many := fun i => ⟨Int.emod_nonneg _ (by omega), Int.emod_lt_of_pos _ (by omega)⟩
    by_cases h1 : many < 2
    · walk_at "evs"
      exact ⟨_, _, rfl, fin _⟩
    · have h2 : 1 < s1.left := by omega
      clear h
      walk_at "evs"
      exact ⟨_, _, rfl, fin _⟩
  · have h1 : ¬ many < 2 := fun x => h (.inl x)
    have h2 : ¬ (1 : Int) < s1.left := fun x => h (.inr x)
    have m1 : ∀ x : Int, mulOk x 104729 := fun x => mulOk_r (by decide)
    have m2 : ∀ x : Int, mulOk x 17 := fun x => mulOk_r (by decide)
    have m3 : ∀ x : Int, mulOk (x % 998244353) (x % 998244353) := fun x => mulOk_l (by omega)
    have d : ∀ x : Int, divOk x 16 := fun x => divOk_s (by decide) (bd_small 8500 (by decide))
    have hp : 0 < many := by omega
    clear e1 q e3 h
    walk_at "evs"
    exact ⟨_, _, rfl, Int.emod_nonneg _ (by omega), Int.lt_of_lt_of_le (Int.emod_lt_of_pos _ (by omega)) (by omega)⟩
theorem pick_n (s : Src) (many : Int) (hm : Bd 8500 many.natAbs) (h1 : 0 < many) : ∃ r s', F__law_pick [.src, .int many] (some s) = some (.ok (.int r) (some s')) ∧ 0 ≤ r ∧ r < many := by
  obtain ⟨r, s', e, a, b⟩ := pick_eq s many hm
  exact ⟨r, s', e, a, by omega⟩
theorem of_eq (s : Src) (ds : List D) (h0 : 0 < ds.length) (h : ds.length ≤ 1000) : ∃ d s', F__law_of [.src, .lst ds] (some s) = some (.ok d (some s')) ∧ d ∈ ds := by
  obtain ⟨r, s', e, a, b⟩ := pick_n s ds.length (by rw [Int.natAbs_natCast]; exact bd_small 8500 (Nat.lt_of_le_of_lt h (by decide))) (by omega)
  have hi : r.toNat < ds.length := by omega
  have hx : atI ds r = some ds[r.toNat] := by
    have := atI_nat (j := r.toNat) (List.getElem?_eq_getElem hi)
    rwa [show ((r.toNat : Nat) : Int) = r by omega] at this
  unfold F__law_of B__law_of
  walk_at "ev"
  rw [e]
  walk_at "ev"
  rw [hx]
  walk_at "ev"
  exact ⟨_, _, rfl, List.getElem_mem hi⟩
end Q
namespace G
open PySem PySem.Spec PyProof.Rows L2 PL Q
def topS (i : Nat) : Stmt := PySem.Challenge.pw_beatsnested_k08_begins_counted_far.main.body.getD i (.Pass ⟨0, 0, 0, 0⟩)
structure NB (mg : Str → Option Value) : Prop where
  abs : mg "abs" = none
  int : mg "int" = none
  len : mg "len" = none
  max : mg "max" = none
  range : mg "range" = none
/-! number_part -/
abbrev s_number_part : Stmt := topS 1
theorem sc_number_part : FnScope ["one", "other", "here", "there"] ["one", "other"] (defScope s_number_part) := ⟨rfl, rfl, rfl, by decide +kernel, rfl, by decide +kernel, by decide +kernel⟩
theorem ok_number_part {P : Program} {w : World} {K : PySem.W.Frag} {mg : Str → Option Value} {base : Heap} {f : Addr} {fd : FuncData} (nb : NB mg) 
    (D : FunD K "number_part" "number_part" (defArgs s_number_part) (defBody s_number_part) (defScope s_number_part) [] [] f fd) (hm : mg "number_part" = some (.ref f)) : Callee P w K mg base 1 "number_part" 2 F_number_part :=
  mk_callee (N := ["one", "other", "here", "there"]) (ps := ["one", "other"]) (k := 0) D sc_number_part hm (fun _ _ _ _ _ _ us hl => match us, hl with | [_, _], _ => rfl) fun cdv A outer s H E hr => by
    have nd := sc_number_part.nd
    have tk : Takes (cxOf (L2.CX P w) P w K mg base ["one", "other", "here", "there"] "number_part" (defScope s_number_part) f cdv A outer s H E) (WF E) := takes_of rfl rfl rfl rfl
    exact (dss_cons (ds_par (ps_par (i := 2) (j := 3) rfl nd rfl rfl (by decide) rfl rfl (da_cons (de_blt call_abs d_abs (by rfl) nb.abs boot_abs (da_cons (de_var 0 (pv 0)) da_nil)) (da_cons (de_blt call_abs d_abs (by rfl) nb.abs boot_abs (da_cons (de_var 1 (pv 1)) da_nil)) da_nil)) rfl))
      (dss_cons (ds_while (passes_of rfl) (dt_cmp op_gt d_gt (de_var 3 (pv 3)) de_int (nomark _)) (dss_one (ds_par (ps_par (i := 2) (j := 3) rfl nd rfl rfl (by decide) rfl rfl (da_cons (de_var 3 (pv 3)) (da_cons (de_op op_mod d_mod (de_var 2 (pv 2)) (de_var 3 (pv 3))) da_nil)) rfl))))
      (dss_one (ds_ret (de_var 2 (pv 2))))))
/-! quotient_told -/
abbrev s_quotient_told : Stmt := topS 2
theorem sc_quotient_told : FnScope ["top", "bottom", "part"] ["top", "bottom"] (defScope s_quotient_told) := ⟨rfl, rfl, rfl, by decide +kernel, rfl, by decide +kernel, by decide +kernel⟩
theorem ok_quotient_told {P : Program} {w : World} {K : PySem.W.Frag} {mg : Str → Option Value} {base : Heap} {f : Addr} {fd : FuncData} (nb : NB mg) (C_number_part : Callee P w K mg base 1 "number_part" 2 F_number_part)
    (D : FunD K "quotient_told" "quotient_told" (defArgs s_quotient_told) (defBody s_quotient_told) (defScope s_quotient_told) [] [] f fd) (hm : mg "quotient_told" = some (.ref f)) : Callee P w K mg base 2 "quotient_told" 2 F_quotient_told :=
  mk_callee (N := ["top", "bottom", "part"]) (ps := ["top", "bottom"]) (k := 1) D sc_quotient_told hm (fun _ _ _ _ _ _ us hl => match us, hl with | [_, _], _ => rfl) fun cdv A outer s H E hr => by
    have nd := sc_quotient_told.nd
    have tk : Takes (cxOf (L2.CX P w) P w K mg base ["top", "bottom", "part"] "quotient_told" (defScope s_quotient_told) f cdv A outer s H E) (WF E) := takes_of rfl rfl rfl rfl
    exact (dss_cons (ds_set (ps_set (i := 2) nd rfl (.inl rfl) (de_call C_number_part hr (by decide) tk (by rfl) (da_cons (de_var 0 (pv 0)) (da_cons (de_var 1 (pv 1)) da_nil)))))
      (dss_one (ds_ret (de_if (dt_cmp op_gt d_gt (de_var 1 (pv 1)) de_int (nomark _)) (de_tup (da_cons (de_op op_fdivW d_div (de_var 0 (pv 0)) (de_var 2 (pv 2))) (da_cons (de_op op_fdivW d_div (de_var 1 (pv 1)) (de_var 2 (pv 2))) da_nil))) (de_tup (da_cons (de_op op_fdivW d_div (de_un un_neg d_neg (de_var 0 (pv 0))) (de_var 2 (pv 2))) (da_cons (de_op op_fdivW d_div (de_un un_neg d_neg (de_var 1 (pv 1))) (de_var 2 (pv 2))) da_nil)))))))
/-! quotient_sum -/
abbrev s_quotient_sum : Stmt := topS 3
theorem sc_quotient_sum : FnScope ["one", "other"] ["one", "other"] (defScope s_quotient_sum) := ⟨rfl, rfl, rfl, by decide +kernel, rfl, by decide +kernel, by decide +kernel⟩
theorem ok_quotient_sum {P : Program} {w : World} {K : PySem.W.Frag} {mg : Str → Option Value} {base : Heap} {f : Addr} {fd : FuncData} (nb : NB mg) (C_quotient_told : Callee P w K mg base 2 "quotient_told" 2 F_quotient_told)
    (D : FunD K "quotient_sum" "quotient_sum" (defArgs s_quotient_sum) (defBody s_quotient_sum) (defScope s_quotient_sum) [] [] f fd) (hm : mg "quotient_sum" = some (.ref f)) : Callee P w K mg base 3 "quotient_sum" 2 F_quotient_sum :=
  mk_callee (N := ["one", "other"]) (ps := ["one", "other"]) (k := 2) D sc_quotient_sum hm (fun _ _ _ _ _ _ us hl => match us, hl with | [_, _], _ => rfl) fun cdv A outer s H E hr => by
    have nd := sc_quotient_sum.nd
    have tk : Takes (cxOf (L2.CX P w) P w K mg base ["one", "other"] "quotient_sum" (defScope s_quotient_sum) f cdv A outer s H E) (WF E) := takes_of rfl rfl rfl rfl
    exact (dss_one (ds_ret (de_call C_quotient_told hr (by decide) tk (by rfl) (da_cons (de_op o_add d_add (de_op o_mulA d_mulA (de_ix (de_var 0 (pv 0)) de_int) (de_ix (de_var 1 (pv 1)) de_int)) (de_op o_mulA d_mulA (de_ix (de_var 1 (pv 1)) de_int) (de_ix (de_var 0 (pv 0)) de_int))) (da_cons (de_op o_mulA d_mulA (de_ix (de_var 0 (pv 0)) de_int) (de_ix (de_var 1 (pv 1)) de_int)) da_nil)))))
/-! quotient_less -/
abbrev s_quotient_less : Stmt := topS 4
theorem sc_quotient_less : FnScope ["one", "other"] ["one", "other"] (defScope s_quotient_less) := ⟨rfl, rfl, rfl, by decide +kernel, rfl, by decide +kernel, by decide +kernel⟩
theorem ok_quotient_less {P : Program} {w : World} {K : PySem.W.Frag} {mg : Str → Option Value} {base : Heap} {f : Addr} {fd : FuncData} (nb : NB mg) (C_quotient_told : Callee P w K mg base 2 "quotient_told" 2 F_quotient_told)
    (D : FunD K "quotient_less" "quotient_less" (defArgs s_quotient_less) (defBody s_quotient_less) (defScope s_quotient_less) [] [] f fd) (hm : mg "quotient_less" = some (.ref f)) : Callee P w K mg base 3 "quotient_less" 2 F_quotient_less :=
  mk_callee (N := ["one", "other"]) (ps := ["one", "other"]) (k := 2) D sc_quotient_less hm (fun _ _ _ _ _ _ us hl => match us, hl with | [_, _], _ => rfl) fun cdv A outer s H E hr => by
    have nd := sc_quotient_less.nd
    have tk : Takes (cxOf (L2.CX P w) P w K mg base ["one", "other"] "quotient_less" (defScope s_quotient_less) f cdv A outer s H E) (WF E) := takes_of rfl rfl rfl rfl
    exact (dss_one (ds_ret (de_call C_quotient_told hr (by decide) tk (by rfl) (da_cons (de_op op_sub d_sub (de_op o_mulA d_mulA (de_ix (de_var 0 (pv 0)) de_int) (de_ix (de_var 1 (pv 1)) de_int)) (de_op o_mulA d_mulA (de_ix (de_var 1 (pv 1)) de_int) (de_ix (de_var 0 (pv 0)) de_int))) (da_cons (de_op o_mulA d_mulA (de_ix (de_var 0 (pv 0)) de_int) (de_ix (de_var 1 (pv 1)) de_int)) da_nil)))))
/-! quotient_product -/
abbrev s_quotient_product : Stmt := topS 5
theorem sc_quotient_product : FnScope ["one", "other"] ["one", "other"] (defScope s_quotient_product) := ⟨rfl, rfl, rfl, by decide +kernel, rfl, by decide +kernel, by decide +kernel⟩
theorem ok_quotient_product {P : Program} {w : World} {K : PySem.W.Frag} {mg : Str → Option Value} {base : Heap} {f : Addr} {fd : FuncData} (nb : NB mg) (C_quotient_told : Callee P w K mg base 2 "quotient_told" 2 F_quotient_told)
    (D : FunD K "quotient_product" "quotient_product" (defArgs s_quotient_product) (defBody s_quotient_product) (defScope s_quotient_product) [] [] f fd) (hm : mg "quotient_product" = some (.ref f)) : Callee P w K mg base 3 "quotient_product" 2 F_quotient_product :=
  mk_callee (N := ["one", "other"]) (ps := ["one", "other"]) (k := 2) D sc_quotient_product hm (fun _ _ _ _ _ _ us hl => match us, hl with | [_, _], _ => rfl) fun cdv A outer s H E hr => by
    have nd := sc_quotient_product.nd
    have tk : Takes (cxOf (L2.CX P w) P w K mg base ["one", "other"] "quotient_product" (defScope s_quotient_product) f cdv A outer s H E) (WF E) := takes_of rfl rfl rfl rfl
    exact (dss_one (ds_ret (de_call C_quotient_told hr (by decide) tk (by rfl) (da_cons (de_op o_mulA d_mulA (de_ix (de_var 0 (pv 0)) de_int) (de_ix (de_var 1 (pv 1)) de_int)) (da_cons (de_op o_mulA d_mulA (de_ix (de_var 0 (pv 0)) de_int) (de_ix (de_var 1 (pv 1)) de_int)) da_nil)))))
/-! is_below -/
abbrev s_is_below : Stmt := topS 6
theorem sc_is_below : FnScope ["one", "other"] ["one", "other"] (defScope s_is_below) := ⟨rfl, rfl, rfl, by decide +kernel, rfl, by decide +kernel, by decide +kernel⟩
theorem ok_is_below {P : Program} {w : World} {K : PySem.W.Frag} {mg : Str → Option Value} {base : Heap} {f : Addr} {fd : FuncData} (nb : NB mg) 
    (D : FunD K "is_below" "is_below" (defArgs s_is_below) (defBody s_is_below) (defScope s_is_below) [] [] f fd) (hm : mg "is_below" = some (.ref f)) : Callee P w K mg base 1 "is_below" 2 F_is_below :=
  mk_callee (N := ["one", "other"]) (ps := ["one", "other"]) (k := 0) D sc_is_below hm (fun _ _ _ _ _ _ us hl => match us, hl with | [_, _], _ => rfl) fun cdv A outer s H E hr => by
    have nd := sc_is_below.nd
    have tk : Takes (cxOf (L2.CX P w) P w K mg base ["one", "other"] "is_below" (defScope s_is_below) f cdv A outer s H E) (WF E) := takes_of rfl rfl rfl rfl
    exact (dss_one (ds_ret (de_cmp op_lt d_lt (de_op o_mulA d_mulA (de_ix (de_var 0 (pv 0)) de_int) (de_ix (de_var 1 (pv 1)) de_int)) (de_op o_mulA d_mulA (de_ix (de_var 1 (pv 1)) de_int) (de_ix (de_var 0 (pv 0)) de_int)) (nomark _))))
/-! often_in -/
abbrev s_often_in : Stmt := topS 7
theorem sc_often_in : FnScope ["one", "other"] ["one", "other"] (defScope s_often_in) := ⟨rfl, rfl, rfl, by decide +kernel, rfl, by decide +kernel, by decide +kernel⟩
theorem ok_often_in {P : Program} {w : World} {K : PySem.W.Frag} {mg : Str → Option Value} {base : Heap} {f : Addr} {fd : FuncData} (nb : NB mg) 
    (D : FunD K "often_in" "often_in" (defArgs s_often_in) (defBody s_often_in) (defScope s_often_in) [] [] f fd) (hm : mg "often_in" = some (.ref f)) : Callee P w K mg base 1 "often_in" 2 F_often_in :=
  mk_callee (N := ["one", "other"]) (ps := ["one", "other"]) (k := 0) D sc_often_in hm (fun _ _ _ _ _ _ us hl => match us, hl with | [_, _], _ => rfl) fun cdv A outer s H E hr => by
    have nd := sc_often_in.nd
    have tk : Takes (cxOf (L2.CX P w) P w K mg base ["one", "other"] "often_in" (defScope s_often_in) f cdv A outer s H E) (WF E) := takes_of rfl rfl rfl rfl
    exact (dss_one (ds_ret (de_op op_fdivW d_div (de_op o_mulA d_mulA (de_ix (de_var 0 (pv 0)) de_int) (de_ix (de_var 1 (pv 1)) de_int)) (de_op o_mulA d_mulA (de_ix (de_var 0 (pv 0)) de_int) (de_ix (de_var 1 (pv 1)) de_int)))))
/-! left_of -/
abbrev s_left_of : Stmt := topS 8
theorem sc_left_of : FnScope ["one", "other"] ["one", "other"] (defScope s_left_of) := ⟨rfl, rfl, rfl, by decide +kernel, rfl, by decide +kernel, by decide +kernel⟩
theorem ok_left_of {P : Program} {w : World} {K : PySem.W.Frag} {mg : Str → Option Value} {base : Heap} {f : Addr} {fd : FuncData} (nb : NB mg) (C_quotient_less : Callee P w K mg base 3 "quotient_less" 2 F_quotient_less) (C_quotient_told : Callee P w K mg base 2 "quotient_told" 2 F_quotient_told) (C_often_in : Callee P w K mg base 1 "often_in" 2 F_often_in)
    (D : FunD K "left_of" "left_of" (defArgs s_left_of) (defBody s_left_of) (defScope s_left_of) [] [] f fd) (hm : mg "left_of" = some (.ref f)) : Callee P w K mg base 4 "left_of" 2 F_left_of :=
  mk_callee (N := ["one", "other"]) (ps := ["one", "other"]) (k := 3) D sc_left_of hm (fun _ _ _ _ _ _ us hl => match us, hl with | [_, _], _ => rfl) fun cdv A outer s H E hr => by
    have nd := sc_left_of.nd
    have tk : Takes (cxOf (L2.CX P w) P w K mg base ["one", "other"] "left_of" (defScope s_left_of) f cdv A outer s H E) (WF E) := takes_of rfl rfl rfl rfl
    exact (dss_one (ds_ret (de_call C_quotient_less hr (by decide) tk (by rfl) (da_cons (de_var 0 (pv 0)) (da_cons (de_call C_quotient_told hr (by decide) tk (by rfl) (da_cons (de_op o_mulA d_mulA (de_call C_often_in hr (by decide) tk (by rfl) (da_cons (de_var 0 (pv 0)) (da_cons (de_var 1 (pv 1)) da_nil))) (de_ix (de_var 1 (pv 1)) de_int)) (da_cons (de_ix (de_var 1 (pv 1)) de_int) da_nil))) da_nil)))))
/-! begin_told -/
abbrev s_begin_told : Stmt := topS 9
theorem sc_begin_told : FnScope ["offset", "period", "number"] ["offset", "period", "number"] (defScope s_begin_told) := ⟨rfl, rfl, rfl, by decide +kernel, rfl, by decide +kernel, by decide +kernel⟩
theorem ok_begin_told {P : Program} {w : World} {K : PySem.W.Frag} {mg : Str → Option Value} {base : Heap} {f : Addr} {fd : FuncData} (nb : NB mg) (C_quotient_sum : Callee P w K mg base 3 "quotient_sum" 2 F_quotient_sum) (C_quotient_told : Callee P w K mg base 2 "quotient_told" 2 F_quotient_told)
    (D : FunD K "begin_told" "begin_told" (defArgs s_begin_told) (defBody s_begin_told) (defScope s_begin_told) [] [] f fd) (hm : mg "begin_told" = some (.ref f)) : Callee P w K mg base 4 "begin_told" 3 F_begin_told :=
  mk_callee (N := ["offset", "period", "number"]) (ps := ["offset", "period", "number"]) (k := 3) D sc_begin_told hm (fun _ _ _ _ _ _ us hl => match us, hl with | [_, _, _], _ => rfl) fun cdv A outer s H E hr => by
    have nd := sc_begin_told.nd
    have tk : Takes (cxOf (L2.CX P w) P w K mg base ["offset", "period", "number"] "begin_told" (defScope s_begin_told) f cdv A outer s H E) (WF E) := takes_of rfl rfl rfl rfl
    exact (dss_one (ds_ret (de_call C_quotient_sum hr (by decide) tk (by rfl) (da_cons (de_var 0 (pv 0)) (da_cons (de_call C_quotient_told hr (by decide) tk (by rfl) (da_cons (de_op o_mulA d_mulA (de_var 2 (pv 2)) (de_ix (de_var 1 (pv 1)) de_int)) (da_cons (de_ix (de_var 1 (pv 1)) de_int) da_nil))) da_nil)))))
/-! number_from -/
abbrev s_number_from : Stmt := topS 10
theorem sc_number_from : FnScope ["offset", "period", "moment"] ["offset", "period", "moment"] (defScope s_number_from) := ⟨rfl, rfl, rfl, by decide +kernel, rfl, by decide +kernel, by decide +kernel⟩
theorem ok_number_from {P : Program} {w : World} {K : PySem.W.Frag} {mg : Str → Option Value} {base : Heap} {f : Addr} {fd : FuncData} (nb : NB mg) (C_often_in : Callee P w K mg base 1 "often_in" 2 F_often_in) (C_quotient_less : Callee P w K mg base 3 "quotient_less" 2 F_quotient_less)
    (D : FunD K "number_from" "number_from" (defArgs s_number_from) (defBody s_number_from) (defScope s_number_from) [] [] f fd) (hm : mg "number_from" = some (.ref f)) : Callee P w K mg base 4 "number_from" 3 F_number_from :=
  mk_callee (N := ["offset", "period", "moment"]) (ps := ["offset", "period", "moment"]) (k := 3) D sc_number_from hm (fun _ _ _ _ _ _ us hl => match us, hl with | [_, _, _], _ => rfl) fun cdv A outer s H E hr => by
    have nd := sc_number_from.nd
    have tk : Takes (cxOf (L2.CX P w) P w K mg base ["offset", "period", "moment"] "number_from" (defScope s_number_from) f cdv A outer s H E) (WF E) := takes_of rfl rfl rfl rfl
    exact (dss_one (ds_ret (de_blt (call_max2 rfl) d_max2 (by rfl) nb.max boot_max (da_cons de_int (da_cons (de_un un_neg d_neg (de_call C_often_in hr (by decide) tk (by rfl) (da_cons (de_call C_quotient_less hr (by decide) tk (by rfl) (da_cons (de_var 0 (pv 0)) (da_cons (de_var 2 (pv 2)) da_nil))) (da_cons (de_var 1 (pv 1)) da_nil)))) da_nil)))))
/-! begin_from -/
abbrev s_begin_from : Stmt := topS 11
theorem sc_begin_from : FnScope ["offset", "period", "moment"] ["offset", "period", "moment"] (defScope s_begin_from) := ⟨rfl, rfl, rfl, by decide +kernel, rfl, by decide +kernel, by decide +kernel⟩
theorem ok_begin_from {P : Program} {w : World} {K : PySem.W.Frag} {mg : Str → Option Value} {base : Heap} {f : Addr} {fd : FuncData} (nb : NB mg) (C_begin_told : Callee P w K mg base 4 "begin_told" 3 F_begin_told) (C_number_from : Callee P w K mg base 4 "number_from" 3 F_number_from)
    (D : FunD K "begin_from" "begin_from" (defArgs s_begin_from) (defBody s_begin_from) (defScope s_begin_from) [] [] f fd) (hm : mg "begin_from" = some (.ref f)) : Callee P w K mg base 5 "begin_from" 3 F_begin_from :=
  mk_callee (N := ["offset", "period", "moment"]) (ps := ["offset", "period", "moment"]) (k := 4) D sc_begin_from hm (fun _ _ _ _ _ _ us hl => match us, hl with | [_, _, _], _ => rfl) fun cdv A outer s H E hr => by
    have nd := sc_begin_from.nd
    have tk : Takes (cxOf (L2.CX P w) P w K mg base ["offset", "period", "moment"] "begin_from" (defScope s_begin_from) f cdv A outer s H E) (WF E) := takes_of rfl rfl rfl rfl
    exact (dss_one (ds_ret (de_call C_begin_told hr (by decide) tk (by rfl) (da_cons (de_var 0 (pv 0)) (da_cons (de_var 1 (pv 1)) (da_cons (de_call C_number_from hr (by decide) tk (by rfl) (da_cons (de_var 0 (pv 0)) (da_cons (de_var 1 (pv 1)) (da_cons (de_var 2 (pv 2)) da_nil)))) da_nil))))))
/-! number_at -/
abbrev s_number_at : Stmt := topS 12
theorem sc_number_at : FnScope ["offset", "period", "moment"] ["offset", "period", "moment"] (defScope s_number_at) := ⟨rfl, rfl, rfl, by decide +kernel, rfl, by decide +kernel, by decide +kernel⟩
theorem ok_number_at {P : Program} {w : World} {K : PySem.W.Frag} {mg : Str → Option Value} {base : Heap} {f : Addr} {fd : FuncData} (nb : NB mg) (C_is_below : Callee P w K mg base 1 "is_below" 2 F_is_below) (C_often_in : Callee P w K mg base 1 "often_in" 2 F_often_in) (C_quotient_less : Callee P w K mg base 3 "quotient_less" 2 F_quotient_less)
    (D : FunD K "number_at" "number_at" (defArgs s_number_at) (defBody s_number_at) (defScope s_number_at) [] [] f fd) (hm : mg "number_at" = some (.ref f)) : Callee P w K mg base 4 "number_at" 3 F_number_at :=
  mk_callee (N := ["offset", "period", "moment"]) (ps := ["offset", "period", "moment"]) (k := 3) D sc_number_at hm (fun _ _ _ _ _ _ us hl => match us, hl with | [_, _, _], _ => rfl) fun cdv A outer s H E hr => by
    have nd := sc_number_at.nd
    have tk : Takes (cxOf (L2.CX P w) P w K mg base ["offset", "period", "moment"] "number_at" (defScope s_number_at) f cdv A outer s H E) (WF E) := takes_of rfl rfl rfl rfl
    exact (dss_cons (ds_if (dt_val (de_call C_is_below hr (by decide) tk (by rfl) (da_cons (de_var 2 (pv 2)) (da_cons (de_var 0 (pv 0)) da_nil)))) (dss_one (ds_ret de_non)) dss_nil)
      (dss_one (ds_ret (de_call C_often_in hr (by decide) tk (by rfl) (da_cons (de_call C_quotient_less hr (by decide) tk (by rfl) (da_cons (de_var 2 (pv 2)) (da_cons (de_var 0 (pv 0)) da_nil))) (da_cons (de_var 1 (pv 1)) da_nil))))))
/-! begins_between -/
abbrev s_begins_between : Stmt := topS 13
theorem sc_begins_between : FnScope ["offset", "period", "low", "high"] ["offset", "period", "low", "high"] (defScope s_begins_between) := ⟨rfl, rfl, rfl, by decide +kernel, rfl, by decide +kernel, by decide +kernel⟩
theorem ok_begins_between {P : Program} {w : World} {K : PySem.W.Frag} {mg : Str → Option Value} {base : Heap} {f : Addr} {fd : FuncData} (nb : NB mg) (C_number_from : Callee P w K mg base 4 "number_from" 3 F_number_from)
    (D : FunD K "begins_between" "begins_between" (defArgs s_begins_between) (defBody s_begins_between) (defScope s_begins_between) [] [] f fd) (hm : mg "begins_between" = some (.ref f)) : Callee P w K mg base 5 "begins_between" 4 F_begins_between :=
  mk_callee (N := ["offset", "period", "low", "high"]) (ps := ["offset", "period", "low", "high"]) (k := 4) D sc_begins_between hm (fun _ _ _ _ _ _ us hl => match us, hl with | [_, _, _, _], _ => rfl) fun cdv A outer s H E hr => by
    have nd := sc_begins_between.nd
    have tk : Takes (cxOf (L2.CX P w) P w K mg base ["offset", "period", "low", "high"] "begins_between" (defScope s_begins_between) f cdv A outer s H E) (WF E) := takes_of rfl rfl rfl rfl
    exact (dss_one (ds_ret (de_op op_sub d_sub (de_call C_number_from hr (by decide) tk (by rfl) (da_cons (de_var 0 (pv 0)) (da_cons (de_var 1 (pv 1)) (da_cons (de_var 3 (pv 3)) da_nil)))) (de_call C_number_from hr (by decide) tk (by rfl) (da_cons (de_var 0 (pv 0)) (da_cons (de_var 1 (pv 1)) (da_cons (de_var 2 (pv 2)) da_nil)))))))
/-! _law_source -/
abbrev s__law_source : Stmt := topS 15
theorem sc__law_source : FnScope ["script", "mixed", "cell"] ["script"] (defScope s__law_source) := ⟨rfl, rfl, rfl, by decide +kernel, rfl, by decide +kernel, by decide +kernel⟩
theorem ok__law_source {P : Program} {w : World} {K : PySem.W.Frag} {mg : Str → Option Value} {base : Heap} {f : Addr} {fd : FuncData} (nb : NB mg) 
    (D : FunD K "_law_source" "_law_source" (defArgs s__law_source) (defBody s__law_source) (defScope s__law_source) [] [] f fd) (hm : mg "_law_source" = some (.ref f)) : Callee P w K mg base 1 "_law_source" 1 F__law_source :=
  mk_callee (N := ["script", "mixed", "cell"]) (ps := ["script"]) (k := 0) D sc__law_source hm (fun _ _ _ _ _ _ us hl => match us, hl with | [_], _ => rfl) fun cdv A outer s H E hr => by
    have nd := sc__law_source.nd
    have tk : Takes (cxOf (L2.CX P w) P w K mg base ["script", "mixed", "cell"] "_law_source" (defScope s__law_source) f cdv A outer s H E) (WF E) := takes_of rfl rfl rfl rfl
    exact (dss_cons (ds_set (ps_set (i := 1) nd rfl (.inl rfl) de_int))
      (dss_cons (ds_for (passes_of rfl) rfl (di_scr (de_var 0 (pv 0))) (dg_name (pg_name (i := 2) nd rfl (.inl rfl))) (dss_one (ds_set (ps_set (i := 1) nd rfl (.inl rfl) (de_op op_mod d_mod (de_bty c_intA d_intA (by rfl) nb.int boot_int (da_cons (de_op o_add d_add (de_op o_add d_add (de_op o_mulA d_mulA (de_var 1 (pv 1)) de_int) (de_op o_mulA d_mulA (de_var 2 (pv 2)) de_int)) de_int) da_nil)) de_int)))))
      (dss_one (ds_ret (de_srcNew (de_comp (own := [("cell", 2)]) rfl nd (di_scr (de_var 0 (pv 0))) (blkOk_by (N := ["script", "mixed", "cell"]) (sc := (defScope s__law_source)) (own := [("cell", 2)]) (by decide +kernel)) (fun _ _ _ _ _ => (dgc_name (pg_name (i := 2) nd rfl (Or.inl rfl)) (by decide))) (fun _ _ _ _ _ => dts_nil) (fun _ _ _ _ _ => (de_blt call_abs d_abs (by rfl) nb.abs boot_abs (da_cons (de_var 2 (pv 2)) da_nil)))) (de_var 1 (pv 1)) pe_str pe_str pe_str pe_str pe_int pe_int)))))
/-! _law_pick -/
abbrev s__law_pick : Stmt := topS 16
theorem sc__law_pick : FnScope ["source", "many", "left", "mixed"] ["source", "many"] (defScope s__law_pick) := ⟨rfl, rfl, rfl, by decide +kernel, rfl, by decide +kernel, by decide +kernel⟩
theorem ok__law_pick {P : Program} {w : World} {K : PySem.W.Frag} {mg : Str → Option Value} {base : Heap} {f : Addr} {fd : FuncData} (nb : NB mg) 
    (D : FunD K "_law_pick" "_law_pick" (defArgs s__law_pick) (defBody s__law_pick) (defScope s__law_pick) [] [] f fd) (hm : mg "_law_pick" = some (.ref f)) : Callee P w K mg base 1 "_law_pick" 2 F__law_pick :=
  mk_callee (N := ["source", "many", "left", "mixed"]) (ps := ["source", "many"]) (k := 0) D sc__law_pick hm (fun _ _ _ _ _ _ us hl => match us, hl with | [_, _], _ => rfl) fun cdv A outer s H E hr => by
    have nd := sc__law_pick.nd
    have tk : Takes (cxOf (L2.CX P w) P w K mg base ["source", "many", "left", "mixed"] "_law_pick" (defScope s__law_pick) f cdv A outer s H E) (WF E) := takes_of rfl rfl rfl rfl
    exact (dss_cons (ds_while (passes_of rfl) (PW.pt (dw_and (dt_cmp op_gt d_gt (de_var 1 (pv 1)) de_int (nomark _)) (dw_and (dt_cmp op_lt d_lt (de_srcGet (f := .left) (hu_of hr) (de_var 0 (pv 0)) pe_str) de_int (nomark _)) (dw_and1 (dt_cmp op_gt d_gt (de_srcLen (hu_of hr) (by rfl) nb.len (de_var 0 (pv 0)) pe_str) de_int (nomark _)))))) (dss_one (ds_srcPut (f := .left) (hu_of hr) (de_var 0 (pv 0)) pe_str (de_srcPop (hu_of hr) (de_var 0 (pv 0)) pe_str))))
      (dss_cons (ds_set (ps_set (i := 2) nd rfl (.inl rfl) (de_srcGet (f := .left) (hu_of hr) (de_var 0 (pv 0)) pe_str)))
      (dss_cons (ds_if (PW.pt (dw_or (dt_cmp op_lt d_lt (de_var 1 (pv 1)) de_int (nomark _)) (dw_or1 (dt_cmp op_gt d_gt (de_var 2 (pv 2)) de_int (nomark _))))) (dss_cons (ds_srcPut (f := .left) (hu_of hr) (de_var 0 (pv 0)) pe_str (de_op op_fdivW d_div (de_var 2 (pv 2)) (de_blt (call_max2 rfl) d_max2 (by rfl) nb.max boot_max (da_cons de_int (da_cons (de_var 1 (pv 1)) da_nil)))))
      (dss_one (ds_ret (de_op op_mod d_mod (de_bty c_intA d_intA (by rfl) nb.int boot_int (da_cons (de_var 2 (pv 2)) da_nil)) (de_blt (call_max2 rfl) d_max2 (by rfl) nb.max boot_max (da_cons de_int (da_cons (de_var 1 (pv 1)) da_nil))))))) dss_nil)
      (dss_cons (ds_srcPut (f := .turn) (hu_of hr) (de_var 0 (pv 0)) pe_str (de_op o_add d_add (de_srcGet (f := .turn) (hu_of hr) (de_var 0 (pv 0)) pe_str) de_int))
      (dss_cons (ds_set (ps_set (i := 3) nd rfl (.inl rfl) (de_op op_mod d_mod (de_bty c_intA d_intA (by rfl) nb.int boot_int (da_cons (de_op o_add d_add (de_srcGet (f := .mixed) (hu_of hr) (de_var 0 (pv 0)) pe_str) (de_op o_mulA d_mulA (de_srcGet (f := .turn) (hu_of hr) (de_var 0 (pv 0)) pe_str) de_int)) da_nil)) de_int)))
      (dss_cons (ds_set (ps_set (i := 3) nd rfl (.inl rfl) (de_op op_mod d_mod (de_bty c_intA d_intA (by rfl) nb.int boot_int (da_cons (de_op o_add d_add (de_op o_mulA d_mulA (de_var 3 (pv 3)) (de_var 3 (pv 3))) (de_op o_mulA d_mulA (de_srcGet (f := .turn) (hu_of hr) (de_var 0 (pv 0)) pe_str) de_int)) da_nil)) de_int)))
      (dss_cons (ds_srcPut (f := .mixed) (hu_of hr) (de_var 0 (pv 0)) pe_str (de_var 3 (pv 3)))
      (dss_one (ds_ret (de_op op_mod d_mod (de_bty c_intA d_intA (by rfl) nb.int boot_int (da_cons (de_op op_fdivW d_div (de_var 3 (pv 3)) de_int) da_nil)) (de_var 1 (pv 1))))))))))))
/-! _law_of -/
abbrev s__law_of : Stmt := topS 17
theorem sc__law_of : FnScope ["source", "some"] ["source", "some"] (defScope s__law_of) := ⟨rfl, rfl, rfl, by decide +kernel, rfl, by decide +kernel, by decide +kernel⟩
theorem ok__law_of {P : Program} {w : World} {K : PySem.W.Frag} {mg : Str → Option Value} {base : Heap} {f : Addr} {fd : FuncData} (nb : NB mg) (C__law_pick : Callee P w K mg base 1 "_law_pick" 2 F__law_pick)
    (D : FunD K "_law_of" "_law_of" (defArgs s__law_of) (defBody s__law_of) (defScope s__law_of) [] [] f fd) (hm : mg "_law_of" = some (.ref f)) : Callee P w K mg base 2 "_law_of" 2 F__law_of :=
  mk_callee (N := ["source", "some"]) (ps := ["source", "some"]) (k := 1) D sc__law_of hm (fun _ _ _ _ _ _ us hl => match us, hl with | [_, _], _ => rfl) fun cdv A outer s H E hr => by
    have nd := sc__law_of.nd
    have tk : Takes (cxOf (L2.CX P w) P w K mg base ["source", "some"] "_law_of" (defScope s__law_of) f cdv A outer s H E) (WF E) := takes_of rfl rfl rfl rfl
    exact (dss_one (ds_ret (de_ix (de_var 1 (pv 1)) (de_call C__law_pick hr (by decide) tk (by rfl) (da_cons (de_var 0 (pv 0)) (da_cons (de_blt call_len d_len (by rfl) nb.len boot_len (da_cons (de_var 1 (pv 1)) da_nil)) da_nil))))))
/-! _law_least -/
abbrev s__law_least : Stmt := topS 18
theorem sc__law_least : FnScope ["top", "bottom", "one", "other"] ["top", "bottom"] (defScope s__law_least) := ⟨rfl, rfl, rfl, by decide +kernel, rfl, by decide +kernel, by decide +kernel⟩
noncomputable def c1__law_least : FX Bool := fun ρ =>
    (asB (xBin gGt (xVar 3) (xC (.int 0)))) ρ
noncomputable def b1__law_least : FS := fun ρ =>
    (xPar 2 3 (xCons (xVar 3) (xCons (xBin gMod (xBlt gIntA (xCons (xVar 2) xNil)) (xVar 3)) xNil))) ρ
noncomputable def B__law_least : FS :=
    (xSeq (xPar 2 3 (xCons (xBlt gAbs (xCons (xVar 0) xNil)) (xCons (xVar 1) xNil)))
    (xSeq (xWhile c1__law_least b1__law_least)
    (xRet (xTup (xCons (xBin gDiv (xVar 0) (xVar 2)) (xCons (xBin gDiv (xVar 1) (xVar 2)) xNil))))))
noncomputable def F__law_least : DFun := runF 4 B__law_least
theorem ok__law_least {P : Program} {w : World} {K : PySem.W.Frag} {mg : Str → Option Value} {base : Heap} {f : Addr} {fd : FuncData} (nb : NB mg) 
    (D : FunD K "_law_least" "_law_least" (defArgs s__law_least) (defBody s__law_least) (defScope s__law_least) [] [] f fd) (hm : mg "_law_least" = some (.ref f)) : Callee P w K mg base 1 "_law_least" 2 F__law_least :=
  mk_callee (N := ["top", "bottom", "one", "other"]) (ps := ["top", "bottom"]) (k := 0) D sc__law_least hm (fun _ _ _ _ _ _ us hl => match us, hl with | [_, _], _ => rfl) fun cdv A outer s H E hr => by
    have nd := sc__law_least.nd
    have tk : Takes (cxOf (L2.CX P w) P w K mg base ["top", "bottom", "one", "other"] "_law_least" (defScope s__law_least) f cdv A outer s H E) (WF E) := takes_of rfl rfl rfl rfl
    exact (dss_cons (ds_par (ps_par (i := 2) (j := 3) rfl nd rfl rfl (by decide) rfl rfl (da_cons (de_blt call_abs d_abs (by rfl) nb.abs boot_abs (da_cons (de_var 0 (pv 0)) da_nil)) (da_cons (de_var 1 (pv 1)) da_nil)) rfl))
      (dss_cons (ds_while (passes_of rfl) (dt_cmp op_gt d_gt (de_var 3 (pv 3)) de_int (nomark _)) (dss_one (ds_par (ps_par (i := 2) (j := 3) rfl nd rfl rfl (by decide) rfl rfl (da_cons (de_var 3 (pv 3)) (da_cons (de_op op_mod d_mod (de_bty c_intA d_intA (by rfl) nb.int boot_int (da_cons (de_var 2 (pv 2)) da_nil)) (de_var 3 (pv 3))) da_nil)) rfl))))
      (dss_one (ds_ret (de_tup (da_cons (de_op op_fdivW d_div (de_var 0 (pv 0)) (de_var 2 (pv 2))) (da_cons (de_op op_fdivW d_div (de_var 1 (pv 1)) (de_var 2 (pv 2))) da_nil)))))))
/-! _law_listed -/
abbrev s__law_listed : Stmt := topS 19
theorem sc__law_listed : FnScope ["offset", "period", "low", "high", "found", "here", "lap"] ["offset", "period", "low", "high"] (defScope s__law_listed) := ⟨rfl, rfl, rfl, by decide +kernel, rfl, by decide +kernel, by decide +kernel⟩
noncomputable def b1__law_listed : FS := fun ρ =>
    (xSeq (xIfS (asB (xBin gGe (xVar 5) (xVar 3))) xBreak xNext)
    (xSeq (xIfS (asB (xBin gGe (xVar 5) (xVar 2))) (xAppend 4 (xVar 5)) xNext)
    (xAsg (xBin gAdd (xVar 5) (xVar 1)) (gN 5)))) ρ
noncomputable def B__law_listed : FS :=
    (xSeq (xParNew 4 5 xNil (xVar 0))
    (xSeq (xFor (xRange1 (xCons (xC (.int 300)) xNil)) (gN 6) b1__law_listed)
    (xRet (xVar 4))))
noncomputable def F__law_listed : DFun := runF 7 B__law_listed
theorem ok__law_listed {P : Program} {w : World} {K : PySem.W.Frag} {mg : Str → Option Value} {base : Heap} {f : Addr} {fd : FuncData} (nb : NB mg) 
    (D : FunD K "_law_listed" "_law_listed" (defArgs s__law_listed) (defBody s__law_listed) (defScope s__law_listed) [] [] f fd) (hm : mg "_law_listed" = some (.ref f)) : Callee P w K mg base 1 "_law_listed" 4 F__law_listed :=
  mk_callee (N := ["offset", "period", "low", "high", "found", "here", "lap"]) (ps := ["offset", "period", "low", "high"]) (k := 0) D sc__law_listed hm (fun _ _ _ _ _ _ us hl => match us, hl with | [_, _, _, _], _ => rfl) fun cdv A outer s H E hr => by
    have nd := sc__law_listed.nd
    have tk : Takes (cxOf (L2.CX P w) P w K mg base ["offset", "period", "low", "high", "found", "here", "lap"] "_law_listed" (defScope s__law_listed) f cdv A outer s H E) (WF E) := takes_of rfl rfl rfl rfl
    exact (dss_cons (ds_parNew (i := 4) (j := 5) (fun t ht => ps_par (i := 4) (j := 5) rfl nd rfl rfl (by decide) rfl rfl ht rfl) da_nil (de_var 0 (pv 0)))
      (dss_cons (ds_for (passes_of rfl) rfl (di_range1 (by rfl) nb.range (da_cons de_int da_nil)) (dg_name (pg_name (i := 6) nd rfl (.inl rfl))) (dss_cons (ds_if (dt_cmp op_ge d_ge (de_var 5 (pv 5)) (de_var 3 (pv 3)) (nomark _)) (dss_one ds_break) dss_nil)
      (dss_cons (ds_if (dt_cmp op_ge d_ge (de_var 5 (pv 5)) (de_var 2 (pv 2)) (nomark _)) (dss_one (ds_append (i := 4) (pv 4) (de_var 5 (pv 5)))) dss_nil)
      (dss_one (ds_set (ps_set (i := 5) nd rfl (.inl rfl) (de_op o_add d_add (de_var 5 (pv 5)) (de_var 1 (pv 1)))))))))
      (dss_one (ds_ret (de_var 4 (pv 4))))))
/-! _law_up -/
abbrev s__law_up : Stmt := topS 20
theorem sc__law_up : FnScope ["top", "by"] ["top", "by"] (defScope s__law_up) := ⟨rfl, rfl, rfl, by decide +kernel, rfl, by decide +kernel, by decide +kernel⟩
noncomputable def B__law_up : FS :=
    (xRet (xBlt gMax2 (xCons (xC (.int 0)) (xCons (xBin gSub (xC (.int 0)) (xBin gDiv (xBin gSub (xC (.int 0)) (xVar 0)) (xVar 1))) xNil))))
noncomputable def F__law_up : DFun := runF 2 B__law_up
theorem ok__law_up {P : Program} {w : World} {K : PySem.W.Frag} {mg : Str → Option Value} {base : Heap} {f : Addr} {fd : FuncData} (nb : NB mg) 
    (D : FunD K "_law_up" "_law_up" (defArgs s__law_up) (defBody s__law_up) (defScope s__law_up) [] [] f fd) (hm : mg "_law_up" = some (.ref f)) : Callee P w K mg base 1 "_law_up" 2 F__law_up :=
  mk_callee (N := ["top", "by"]) (ps := ["top", "by"]) (k := 0) D sc__law_up hm (fun _ _ _ _ _ _ us hl => match us, hl with | [_, _], _ => rfl) fun cdv A outer s H E hr => by
    have nd := sc__law_up.nd
    have tk : Takes (cxOf (L2.CX P w) P w K mg base ["top", "by"] "_law_up" (defScope s__law_up) f cdv A outer s H E) (WF E) := takes_of rfl rfl rfl rfl
    exact (dss_one (ds_ret (de_blt (call_max2 rfl) d_max2 (by rfl) nb.max boot_max (da_cons de_int (da_cons (de_op op_sub d_sub de_int (de_op op_fdivW d_div (de_op op_sub d_sub de_int (de_var 0 (pv 0))) (de_var 1 (pv 1)))) da_nil)))))
/-! law -/
abbrev s_law : Stmt := topS 21
theorem sc_law : FnScope ["script", "source", "bottom", "offset", "period", "o", "p", "lap", "low", "high", "some", "here", "there", "late", "number", "behind", "middle", "cut", "far", "many", "at", "gone", "often", "later"] ["script"] (defScope s_law) := ⟨rfl, rfl, rfl, by decide +kernel, rfl, by decide +kernel, by decide +kernel⟩
noncomputable def b1_law : FS := fun ρ =>
    (xSeq (xAsg (xCall 2 F__law_pick (xCons (xVar 1) (xCons (xC (.int 150)) xNil))) (gN 8))
    (xSeq (xAsg (xBin gAdd (xVar 8) (xCall 2 F__law_pick (xCons (xVar 1) (xCons (xC (.int 60)) xNil)))) (gN 9))
    (xSeq (xAsg (xCall 4 F__law_listed (xCons (xVar 3) (xCons (xVar 4) (xCons (xVar 8) (xCons (xVar 9) xNil))))) (gN 10))
    (xSeq (xPar 11 12 (xCons (xCall 2 F__law_least (xCons (xVar 8) (xCons (xVar 2) xNil))) (xCons (xCall 2 F__law_least (xCons (xVar 9) (xCons (xVar 2) xNil))) xNil)))
    (xSeq (xIfS (asB (xBin gNe (xCall 4 F_begins_between (xCons (xVar 5) (xCons (xVar 6) (xCons (xVar 11) (xCons (xVar 12) xNil))))) (xBlt gLen (xCons (xVar 10) xNil)))) (xRet (xC (.bl false))) xNext)
    (xSeq (xAsg (xCall 4 F__law_listed (xCons (xVar 3) (xCons (xVar 4) (xCons (xVar 8) (xCons (xBin gAdd (xBin gAdd (xBin gAdd (xVar 8) (xVar 4)) (xVar 3)) (xC (.int 1))) xNil))))) (gN 13))
    (xSeq (xIfS (asB (xBin gNe (xCall 3 F_begin_from (xCons (xVar 5) (xCons (xVar 6) (xCons (xVar 11) xNil)))) (xCall 2 F__law_least (xCons (xIx (xVar 13) (xC (.int 0))) (xCons (xVar 2) xNil))))) (xRet (xC (.bl false))) xNext)
    (xSeq (xAsg (xBlt gLen (xCons (xCall 4 F__law_listed (xCons (xVar 3) (xCons (xVar 4) (xCons (xC (.int 0)) (xCons (xIx (xVar 13) (xC (.int 0))) xNil))))) xNil)) (gN 14))
    (xSeq (xIfS (xOr (asB (xBin gNe (xCall 3 F_number_from (xCons (xVar 5) (xCons (xVar 6) (xCons (xVar 11) xNil)))) (xVar 14))) (asB (xBin gNe (xCall 3 F_begin_told (xCons (xVar 5) (xCons (xVar 6) (xCons (xVar 14) xNil)))) (xCall 2 F__law_least (xCons (xIx (xVar 13) (xC (.int 0))) (xCons (xVar 2) xNil)))))) (xRet (xC (.bl false))) xNext)
    (xSeq (xAsg (xBlt gLen (xCons (xCall 4 F__law_listed (xCons (xVar 3) (xCons (xVar 4) (xCons (xC (.int 0)) (xCons (xBin gAdd (xVar 8) (xC (.int 1))) xNil))))) xNil)) (gN 15))
    (xSeq (xIfS (asB (xBin gNe (xCall 3 F_number_at (xCons (xVar 5) (xCons (xVar 6) (xCons (xVar 11) xNil)))) (xIf (asB (xBin gGt (xVar 15) (xC (.int 0)))) (xBin gSub (xVar 15) (xC (.int 1))) (xC .non)))) (xRet (xC (.bl false))) xNext)
    (xSeq (xAsg (xBin gAdd (xVar 8) (xCall 2 F__law_pick (xCons (xVar 1) (xCons (xBin gAdd (xBin gSub (xVar 9) (xVar 8)) (xC (.int 1))) xNil)))) (gN 16))
    (xSeq (xAsg (xCall 2 F__law_least (xCons (xVar 16) (xCons (xVar 2) xNil))) (gN 17))
    (xIfS (asB (xBin gNe (xBin gAdd (xCall 4 F_begins_between (xCons (xVar 5) (xCons (xVar 6) (xCons (xVar 11) (xCons (xVar 17) xNil))))) (xCall 4 F_begins_between (xCons (xVar 5) (xCons (xVar 6) (xCons (xVar 17) (xCons (xVar 12) xNil)))))) (xBlt gLen (xCons (xVar 10) xNil)))) (xRet (xC (.bl false))) xNext)))))))))))))) ρ
noncomputable def b2_law : FS := fun ρ =>
    (xSeq (xPar 19 11 (xCons (xCall 2 F__law_up (xCons (xBin gSub (xVar 8) (xVar 3)) (xCons (xVar 4) xNil))) (xCons (xCall 2 F__law_least (xCons (xVar 8) (xCons (xVar 2) xNil))) xNil)))
    (xSeq (xIfS (xOr (asB (xBin gNe (xCall 3 F_number_from (xCons (xVar 5) (xCons (xVar 6) (xCons (xVar 11) xNil)))) (xVar 19))) (asB (xBin gNe (xCall 3 F_begin_from (xCons (xVar 5) (xCons (xVar 6) (xCons (xVar 11) xNil)))) (xCall 2 F__law_least (xCons (xBin gAdd (xVar 3) (xBin gMulA (xVar 19) (xVar 4))) (xCons (xVar 2) xNil)))))) (xRet (xC (.bl false))) xNext)
    (xSeq (xAsg (xBin gDiv (xBin gSub (xVar 8) (xVar 3)) (xVar 4)) (gN 20))
    (xSeq (xIfS (xOr (asB (xBin gNe (xCall 3 F_number_at (xCons (xVar 5) (xCons (xVar 6) (xCons (xVar 11) xNil)))) (xVar 20))) (asB (xBin gNe (xCall 3 F_begin_told (xCons (xVar 5) (xCons (xVar 6) (xCons (xVar 20) xNil)))) (xCall 2 F__law_least (xCons (xBin gAdd (xVar 3) (xBin gMulA (xVar 20) (xVar 4))) (xCons (xVar 2) xNil)))))) (xRet (xC (.bl false))) xNext)
    (xSeq (xAsg (xCall 2 F_quotient_less (xCons (xVar 11) (xCons (xVar 5) xNil))) (gN 21))
    (xSeq (xIfS (xOr (asB (xBin gNe (xCall 2 F_often_in (xCons (xVar 21) (xCons (xVar 6) xNil))) (xVar 20))) (asB (xBin gNe (xCall 2 F_left_of (xCons (xVar 21) (xCons (xVar 6) xNil))) (xCall 2 F__law_least (xCons (xBin gMod (xBlt gIntA (xCons (xBin gSub (xVar 8) (xVar 3)) xNil)) (xVar 4)) (xCons (xVar 2) xNil)))))) (xRet (xC (.bl false))) xNext)
    (xSeq (xIfS (xOr (asB (xCall 2 F_is_below (xCons (xVar 11) (xCons (xCall 3 F_begin_told (xCons (xVar 5) (xCons (xVar 6) (xCons (xVar 20) xNil)))) xNil)))) (xNot (asB (xCall 2 F_is_below (xCons (xVar 11) (xCons (xCall 3 F_begin_told (xCons (xVar 5) (xCons (xVar 6) (xCons (xBin gAdd (xVar 20) (xC (.int 1))) xNil)))) xNil)))))) (xRet (xC (.bl false))) xNext)
    (xSeq (xAsg (xCall 2 F__law_of (xCons (xVar 1) (xCons (xLst (xCons (xC (.int 1)) (xCons (xC (.int 7)) (xCons (xBin gPow (xC (.int 10)) (xC (.int 20))) xNil)))) xNil))) (gN 22))
    (xSeq (xAsg (xCall 2 F_quotient_sum (xCons (xVar 11) (xCons (xCall 2 F_quotient_product (xCons (xVar 6) (xCons (xTup (xCons (xVar 22) (xCons (xC (.int 1)) xNil))) xNil))) xNil))) (gN 12))
    (xSeq (xIfS (asB (xBin gNe (xCall 4 F_begins_between (xCons (xVar 5) (xCons (xVar 6) (xCons (xVar 11) (xCons (xVar 12) xNil))))) (xVar 22))) (xRet (xC (.bl false))) xNext)
    (xIfS (asB (xBin gNe (xCall 4 F_begins_between (xCons (xVar 5) (xCons (xVar 6) (xCons (xTup (xCons (xC (.int 0)) (xCons (xC (.int 1)) xNil))) (xCons (xVar 11) xNil))))) (xVar 19))) (xRet (xC (.bl false))) xNext))))))))))) ρ
noncomputable def B_law : FS :=
    (xSeq (xAsg (xCall 1 F__law_source (xCons (xVar 0) xNil)) (gN 1))
    (xSeq (xAsg (xBin gAdd (xC (.int 1)) (xCall 2 F__law_pick (xCons (xVar 1) (xCons (xC (.int 12)) xNil)))) (gN 2))
    (xSeq (xPar 3 4 (xCons (xCall 2 F__law_pick (xCons (xVar 1) (xCons (xC (.int 40)) xNil))) (xCons (xBin gAdd (xC (.int 1)) (xCall 2 F__law_pick (xCons (xVar 1) (xCons (xC (.int 30)) xNil)))) xNil)))
    (xSeq (xPar 5 6 (xCons (xCall 2 F__law_least (xCons (xVar 3) (xCons (xVar 2) xNil))) (xCons (xCall 2 F__law_least (xCons (xVar 4) (xCons (xVar 2) xNil))) xNil)))
    (xSeq (xIfS (asB (xBin gNe (xLst (xCons (xCall 2 F_quotient_told (xCons (xVar 3) (xCons (xVar 2) xNil))) (xCons (xCall 2 F_quotient_told (xCons (xBin gMulA (xC (.int 3)) (xVar 4)) (xCons (xBin gMulA (xC (.int 3)) (xVar 2)) xNil))) xNil))) (xLst (xCons (xVar 5) (xCons (xVar 6) xNil))))) (xRet (xC (.bl false))) xNext)
    (xSeq (xFor (xRange1 (xCons (xC (.int 6)) xNil)) (gN 7) b1_law)
    (xSeq (xAsg (xBin gAdd (xBlt gIntA (xCons (xBin gAdd (xC (.str "1")) (xBin gMulA (xC (.str "0")) (xCall 2 F__law_of (xCons (xVar 1) (xCons (xLst (xCons (xC (.int 12)) (xCons (xC (.int 60)) (xCons (xC (.int 288)) xNil)))) xNil))))) xNil)) (xCall 2 F__law_pick (xCons (xVar 1) (xCons (xBin gPow (xC (.int 10)) (xC (.int 9))) xNil)))) (gN 18))
    (xSeq (xFor (xTupOf (xTup (xCons (xVar 18) (xCons (xBin gAdd (xVar 18) (xCall 2 F__law_pick (xCons (xVar 1) (xCons (xBin gPow (xC (.int 10)) (xC (.int 12))) xNil)))) xNil)))) (gN 8) b2_law)
    (xSeq (xAsg (xCall 2 F_quotient_sum (xCons (xVar 5) (xCons (xCall 2 F_quotient_product (xCons (xVar 6) (xCons (xTup (xCons (xC (.int 3)) (xCons (xC (.int 1)) xNil))) xNil))) xNil))) (gN 23))
    (xSeq (xAsg (xCall 4 F_begins_between (xCons (xVar 23) (xCons (xVar 6) (xCons (xCall 2 F__law_least (xCons (xVar 18) (xCons (xVar 2) xNil))) (xCons (xCall 2 F__law_least (xCons (xBin gAdd (xVar 18) (xC (.int 500))) (xCons (xVar 2) xNil))) xNil))))) (gN 10))
    (xSeq (xIfS (asB (xBin gNe (xVar 10) (xCall 4 F_begins_between (xCons (xVar 5) (xCons (xVar 6) (xCons (xCall 2 F__law_least (xCons (xVar 18) (xCons (xVar 2) xNil))) (xCons (xCall 2 F__law_least (xCons (xBin gAdd (xVar 18) (xC (.int 500))) (xCons (xVar 2) xNil))) xNil))))))) (xRet (xC (.bl false))) xNext)
    (xRet (xAndV (xBin gEq (xCall 3 F_number_at (xCons (xVar 5) (xCons (xVar 6) (xCons (xVar 5) xNil)))) (xC (.int 0))) (xAndV (xBin gEq (xCall 3 F_number_from (xCons (xVar 5) (xCons (xVar 6) (xCons (xTup (xCons (xC (.int 0)) (xCons (xC (.int 1)) xNil))) xNil)))) (xC (.int 0))) (xBin gEq (xCall 4 F_begins_between (xCons (xVar 5) (xCons (xVar 6) (xCons (xVar 5) (xCons (xVar 5) xNil))))) (xC (.int 0)))))))))))))))))
noncomputable def F_law : DFun := runF 24 B_law
theorem ok_law {P : Program} {w : World} {K : PySem.W.Frag} {mg : Str → Option Value} {base : Heap} {f : Addr} {fd : FuncData} (nb : NB mg) (C__law_source : Callee P w K mg base 1 "_law_source" 1 F__law_source) (C_quotient_sum : Callee P w K mg base 3 "quotient_sum" 2 F_quotient_sum) (C_begins_between : Callee P w K mg base 5 "begins_between" 4 F_begins_between) (C__law_pick : Callee P w K mg base 1 "_law_pick" 2 F__law_pick) (C__law_least : Callee P w K mg base 1 "_law_least" 2 F__law_least) (C__law_listed : Callee P w K mg base 1 "_law_listed" 4 F__law_listed) (C_quotient_less : Callee P w K mg base 3 "quotient_less" 2 F_quotient_less) (C__law_of : Callee P w K mg base 2 "_law_of" 2 F__law_of) (C_quotient_product : Callee P w K mg base 3 "quotient_product" 2 F_quotient_product) (C_quotient_told : Callee P w K mg base 2 "quotient_told" 2 F_quotient_told) (C_begin_from : Callee P w K mg base 5 "begin_from" 3 F_begin_from) (C_number_at : Callee P w K mg base 4 "number_at" 3 F_number_at) (C__law_up : Callee P w K mg base 1 "_law_up" 2 F__law_up) (C_is_below : Callee P w K mg base 1 "is_below" 2 F_is_below) (C_number_from : Callee P w K mg base 4 "number_from" 3 F_number_from) (C_begin_told : Callee P w K mg base 4 "begin_told" 3 F_begin_told) (C_often_in : Callee P w K mg base 1 "often_in" 2 F_often_in) (C_left_of : Callee P w K mg base 4 "left_of" 2 F_left_of)
    (D : FunD K "law" "law" (defArgs s_law) (defBody s_law) (defScope s_law) [] [] f fd) : FnOk P w K mg base (L2.CX P w) 6 f fd ["script"] (spD K 1 F_law) :=
  fn_ok (N := ["script", "source", "bottom", "offset", "period", "o", "p", "lap", "low", "high", "some", "here", "there", "late", "number", "behind", "middle", "cut", "far", "many", "at", "gone", "often", "later"]) (ps := ["script"]) (k := 5) D sc_law fun cdv A outer s H E hr => by
    have nd := sc_law.nd
    have tk : Takes (cxOf (L2.CX P w) P w K mg base ["script", "source", "bottom", "offset", "period", "o", "p", "lap", "low", "high", "some", "here", "there", "late", "number", "behind", "middle", "cut", "far", "many", "at", "gone", "often", "later"] "law" (defScope s_law) f cdv A outer s H E) (WF E) := takes_of rfl rfl rfl rfl
    exact (dss_cons (ds_set (ps_set (i := 1) nd rfl (.inl rfl) (de_call C__law_source hr (by decide) tk (by rfl) (da_cons (de_var 0 (pv 0)) da_nil))))
      (dss_cons (ds_set (ps_set (i := 2) nd rfl (.inl rfl) (de_op o_add d_add de_int (de_call C__law_pick hr (by decide) tk (by rfl) (da_cons (de_var 1 (pv 1)) (da_cons de_int da_nil))))))
      (dss_cons (ds_par (ps_par (i := 3) (j := 4) rfl nd rfl rfl (by decide) rfl rfl (da_cons (de_call C__law_pick hr (by decide) tk (by rfl) (da_cons (de_var 1 (pv 1)) (da_cons de_int da_nil))) (da_cons (de_op o_add d_add de_int (de_call C__law_pick hr (by decide) tk (by rfl) (da_cons (de_var 1 (pv 1)) (da_cons de_int da_nil)))) da_nil)) rfl))
      (dss_cons (ds_par (ps_par (i := 5) (j := 6) rfl nd rfl rfl (by decide) rfl rfl (da_cons (de_call C__law_least hr (by decide) tk (by rfl) (da_cons (de_var 3 (pv 3)) (da_cons (de_var 2 (pv 2)) da_nil))) (da_cons (de_call C__law_least hr (by decide) tk (by rfl) (da_cons (de_var 4 (pv 4)) (da_cons (de_var 2 (pv 2)) da_nil))) da_nil)) rfl))
      (dss_cons (ds_if (dt_cmp (op_neD hr.units) d_ne (de_lst (da_cons (de_call C_quotient_told hr (by decide) tk (by rfl) (da_cons (de_var 3 (pv 3)) (da_cons (de_var 2 (pv 2)) da_nil))) (da_cons (de_call C_quotient_told hr (by decide) tk (by rfl) (da_cons (de_op o_mulA d_mulA de_int (de_var 4 (pv 4))) (da_cons (de_op o_mulA d_mulA de_int (de_var 2 (pv 2))) da_nil))) da_nil))) (de_lst (da_cons (de_var 5 (pv 5)) (da_cons (de_var 6 (pv 6)) da_nil))) (nomark _)) (dss_one (ds_ret de_bl)) dss_nil)
      (dss_cons (ds_for (passes_of rfl) rfl (di_range1 (by rfl) nb.range (da_cons de_int da_nil)) (dg_name (pg_name (i := 7) nd rfl (.inl rfl))) (dss_cons (ds_set (ps_set (i := 8) nd rfl (.inl rfl) (de_call C__law_pick hr (by decide) tk (by rfl) (da_cons (de_var 1 (pv 1)) (da_cons de_int da_nil)))))
      (dss_cons (ds_set (ps_set (i := 9) nd rfl (.inl rfl) (de_op o_add d_add (de_var 8 (pv 8)) (de_call C__law_pick hr (by decide) tk (by rfl) (da_cons (de_var 1 (pv 1)) (da_cons de_int da_nil))))))
      (dss_cons (ds_set (ps_set (i := 10) nd rfl (.inl rfl) (de_call C__law_listed hr (by decide) tk (by rfl) (da_cons (de_var 3 (pv 3)) (da_cons (de_var 4 (pv 4)) (da_cons (de_var 8 (pv 8)) (da_cons (de_var 9 (pv 9)) da_nil)))))))
      (dss_cons (ds_par (ps_par (i := 11) (j := 12) rfl nd rfl rfl (by decide) rfl rfl (da_cons (de_call C__law_least hr (by decide) tk (by rfl) (da_cons (de_var 8 (pv 8)) (da_cons (de_var 2 (pv 2)) da_nil))) (da_cons (de_call C__law_least hr (by decide) tk (by rfl) (da_cons (de_var 9 (pv 9)) (da_cons (de_var 2 (pv 2)) da_nil))) da_nil)) rfl))
      (dss_cons (ds_if (dt_cmp (op_neD hr.units) d_ne (de_call C_begins_between hr (by decide) tk (by rfl) (da_cons (de_var 5 (pv 5)) (da_cons (de_var 6 (pv 6)) (da_cons (de_var 11 (pv 11)) (da_cons (de_var 12 (pv 12)) da_nil))))) (de_blt call_len d_len (by rfl) nb.len boot_len (da_cons (de_var 10 (pv 10)) da_nil)) (nomark _)) (dss_one (ds_ret de_bl)) dss_nil)
      (dss_cons (ds_set (ps_set (i := 13) nd rfl (.inl rfl) (de_call C__law_listed hr (by decide) tk (by rfl) (da_cons (de_var 3 (pv 3)) (da_cons (de_var 4 (pv 4)) (da_cons (de_var 8 (pv 8)) (da_cons (de_op o_add d_add (de_op o_add d_add (de_op o_add d_add (de_var 8 (pv 8)) (de_var 4 (pv 4))) (de_var 3 (pv 3))) de_int) da_nil)))))))
      (dss_cons (ds_if (dt_cmp (op_neD hr.units) d_ne (de_call C_begin_from hr (by decide) tk (by rfl) (da_cons (de_var 5 (pv 5)) (da_cons (de_var 6 (pv 6)) (da_cons (de_var 11 (pv 11)) da_nil)))) (de_call C__law_least hr (by decide) tk (by rfl) (da_cons (de_ix (de_var 13 (pv 13)) de_int) (da_cons (de_var 2 (pv 2)) da_nil))) (nomark _)) (dss_one (ds_ret de_bl)) dss_nil)
      (dss_cons (ds_set (ps_set (i := 14) nd rfl (.inl rfl) (de_blt call_len d_len (by rfl) nb.len boot_len (da_cons (de_call C__law_listed hr (by decide) tk (by rfl) (da_cons (de_var 3 (pv 3)) (da_cons (de_var 4 (pv 4)) (da_cons de_int (da_cons (de_ix (de_var 13 (pv 13)) de_int) da_nil))))) da_nil))))
      (dss_cons (ds_if (PW.pt (dw_or (dt_cmp (op_neD hr.units) d_ne (de_call C_number_from hr (by decide) tk (by rfl) (da_cons (de_var 5 (pv 5)) (da_cons (de_var 6 (pv 6)) (da_cons (de_var 11 (pv 11)) da_nil)))) (de_var 14 (pv 14)) (nomark _)) (dw_or1 (dt_cmp (op_neD hr.units) d_ne (de_call C_begin_told hr (by decide) tk (by rfl) (da_cons (de_var 5 (pv 5)) (da_cons (de_var 6 (pv 6)) (da_cons (de_var 14 (pv 14)) da_nil)))) (de_call C__law_least hr (by decide) tk (by rfl) (da_cons (de_ix (de_var 13 (pv 13)) de_int) (da_cons (de_var 2 (pv 2)) da_nil))) (nomark _))))) (dss_one (ds_ret de_bl)) dss_nil)
      (dss_cons (ds_set (ps_set (i := 15) nd rfl (.inl rfl) (de_blt call_len d_len (by rfl) nb.len boot_len (da_cons (de_call C__law_listed hr (by decide) tk (by rfl) (da_cons (de_var 3 (pv 3)) (da_cons (de_var 4 (pv 4)) (da_cons de_int (da_cons (de_op o_add d_add (de_var 8 (pv 8)) de_int) da_nil))))) da_nil))))
      (dss_cons (ds_if (dt_cmp (op_neD hr.units) d_ne (de_call C_number_at hr (by decide) tk (by rfl) (da_cons (de_var 5 (pv 5)) (da_cons (de_var 6 (pv 6)) (da_cons (de_var 11 (pv 11)) da_nil)))) (de_if (dt_cmp op_gt d_gt (de_var 15 (pv 15)) de_int (nomark _)) (de_op op_sub d_sub (de_var 15 (pv 15)) de_int) de_non) (nomark _)) (dss_one (ds_ret de_bl)) dss_nil)
      (dss_cons (ds_set (ps_set (i := 16) nd rfl (.inl rfl) (de_op o_add d_add (de_var 8 (pv 8)) (de_call C__law_pick hr (by decide) tk (by rfl) (da_cons (de_var 1 (pv 1)) (da_cons (de_op o_add d_add (de_op op_sub d_sub (de_var 9 (pv 9)) (de_var 8 (pv 8))) de_int) da_nil))))))
      (dss_cons (ds_set (ps_set (i := 17) nd rfl (.inl rfl) (de_call C__law_least hr (by decide) tk (by rfl) (da_cons (de_var 16 (pv 16)) (da_cons (de_var 2 (pv 2)) da_nil)))))
      (dss_one (ds_if (dt_cmp (op_neD hr.units) d_ne (de_op o_add d_add (de_call C_begins_between hr (by decide) tk (by rfl) (da_cons (de_var 5 (pv 5)) (da_cons (de_var 6 (pv 6)) (da_cons (de_var 11 (pv 11)) (da_cons (de_var 17 (pv 17)) da_nil))))) (de_call C_begins_between hr (by decide) tk (by rfl) (da_cons (de_var 5 (pv 5)) (da_cons (de_var 6 (pv 6)) (da_cons (de_var 17 (pv 17)) (da_cons (de_var 12 (pv 12)) da_nil)))))) (de_blt call_len d_len (by rfl) nb.len boot_len (da_cons (de_var 10 (pv 10)) da_nil)) (nomark _)) (dss_one (ds_ret de_bl)) dss_nil))))))))))))))))
      (dss_cons (ds_set (ps_set (i := 18) nd rfl (.inl rfl) (de_op o_add d_add (de_bty c_intA d_intA (by rfl) nb.int boot_int (da_cons (de_op o_add d_add de_str (de_op o_mulA d_mulA de_str (de_call C__law_of hr (by decide) tk (by rfl) (da_cons (de_var 1 (pv 1)) (da_cons (de_lst (da_cons de_int (da_cons de_int (da_cons de_int da_nil)))) da_nil))))) da_nil)) (de_call C__law_pick hr (by decide) tk (by rfl) (da_cons (de_var 1 (pv 1)) (da_cons (de_op op_pow d_pow de_int de_int) da_nil))))))
      (dss_cons (ds_for (passes_of rfl) rfl (di_tup (de_tup (da_cons (de_var 18 (pv 18)) (da_cons (de_op o_add d_add (de_var 18 (pv 18)) (de_call C__law_pick hr (by decide) tk (by rfl) (da_cons (de_var 1 (pv 1)) (da_cons (de_op op_pow d_pow de_int de_int) da_nil)))) da_nil)))) (dg_name (pg_name (i := 8) nd rfl (.inl rfl))) (dss_cons (ds_par (ps_par (i := 19) (j := 11) rfl nd rfl rfl (by decide) rfl rfl (da_cons (de_call C__law_up hr (by decide) tk (by rfl) (da_cons (de_op op_sub d_sub (de_var 8 (pv 8)) (de_var 3 (pv 3))) (da_cons (de_var 4 (pv 4)) da_nil))) (da_cons (de_call C__law_least hr (by decide) tk (by rfl) (da_cons (de_var 8 (pv 8)) (da_cons (de_var 2 (pv 2)) da_nil))) da_nil)) rfl))
      (dss_cons (ds_if (PW.pt (dw_or (dt_cmp (op_neD hr.units) d_ne (de_call C_number_from hr (by decide) tk (by rfl) (da_cons (de_var 5 (pv 5)) (da_cons (de_var 6 (pv 6)) (da_cons (de_var 11 (pv 11)) da_nil)))) (de_var 19 (pv 19)) (nomark _)) (dw_or1 (dt_cmp (op_neD hr.units) d_ne (de_call C_begin_from hr (by decide) tk (by rfl) (da_cons (de_var 5 (pv 5)) (da_cons (de_var 6 (pv 6)) (da_cons (de_var 11 (pv 11)) da_nil)))) (de_call C__law_least hr (by decide) tk (by rfl) (da_cons (de_op o_add d_add (de_var 3 (pv 3)) (de_op o_mulA d_mulA (de_var 19 (pv 19)) (de_var 4 (pv 4)))) (da_cons (de_var 2 (pv 2)) da_nil))) (nomark _))))) (dss_one (ds_ret de_bl)) dss_nil)
      (dss_cons (ds_set (ps_set (i := 20) nd rfl (.inl rfl) (de_op op_fdivW d_div (de_op op_sub d_sub (de_var 8 (pv 8)) (de_var 3 (pv 3))) (de_var 4 (pv 4)))))
      (dss_cons (ds_if (PW.pt (dw_or (dt_cmp (op_neD hr.units) d_ne (de_call C_number_at hr (by decide) tk (by rfl) (da_cons (de_var 5 (pv 5)) (da_cons (de_var 6 (pv 6)) (da_cons (de_var 11 (pv 11)) da_nil)))) (de_var 20 (pv 20)) (nomark _)) (dw_or1 (dt_cmp (op_neD hr.units) d_ne (de_call C_begin_told hr (by decide) tk (by rfl) (da_cons (de_var 5 (pv 5)) (da_cons (de_var 6 (pv 6)) (da_cons (de_var 20 (pv 20)) da_nil)))) (de_call C__law_least hr (by decide) tk (by rfl) (da_cons (de_op o_add d_add (de_var 3 (pv 3)) (de_op o_mulA d_mulA (de_var 20 (pv 20)) (de_var 4 (pv 4)))) (da_cons (de_var 2 (pv 2)) da_nil))) (nomark _))))) (dss_one (ds_ret de_bl)) dss_nil)
      (dss_cons (ds_set (ps_set (i := 21) nd rfl (.inl rfl) (de_call C_quotient_less hr (by decide) tk (by rfl) (da_cons (de_var 11 (pv 11)) (da_cons (de_var 5 (pv 5)) da_nil)))))
      (dss_cons (ds_if (PW.pt (dw_or (dt_cmp (op_neD hr.units) d_ne (de_call C_often_in hr (by decide) tk (by rfl) (da_cons (de_var 21 (pv 21)) (da_cons (de_var 6 (pv 6)) da_nil))) (de_var 20 (pv 20)) (nomark _)) (dw_or1 (dt_cmp (op_neD hr.units) d_ne (de_call C_left_of hr (by decide) tk (by rfl) (da_cons (de_var 21 (pv 21)) (da_cons (de_var 6 (pv 6)) da_nil))) (de_call C__law_least hr (by decide) tk (by rfl) (da_cons (de_op op_mod d_mod (de_bty c_intA d_intA (by rfl) nb.int boot_int (da_cons (de_op op_sub d_sub (de_var 8 (pv 8)) (de_var 3 (pv 3))) da_nil)) (de_var 4 (pv 4))) (da_cons (de_var 2 (pv 2)) da_nil))) (nomark _))))) (dss_one (ds_ret de_bl)) dss_nil)
      (dss_cons (ds_if (PW.pt (dw_or (dt_val (de_call C_is_below hr (by decide) tk (by rfl) (da_cons (de_var 11 (pv 11)) (da_cons (de_call C_begin_told hr (by decide) tk (by rfl) (da_cons (de_var 5 (pv 5)) (da_cons (de_var 6 (pv 6)) (da_cons (de_var 20 (pv 20)) da_nil)))) da_nil)))) (dw_or1 (dt_not (dt_val (de_call C_is_below hr (by decide) tk (by rfl) (da_cons (de_var 11 (pv 11)) (da_cons (de_call C_begin_told hr (by decide) tk (by rfl) (da_cons (de_var 5 (pv 5)) (da_cons (de_var 6 (pv 6)) (da_cons (de_op o_add d_add (de_var 20 (pv 20)) de_int) da_nil)))) da_nil)))))))) (dss_one (ds_ret de_bl)) dss_nil)
      (dss_cons (ds_set (ps_set (i := 22) nd rfl (.inl rfl) (de_call C__law_of hr (by decide) tk (by rfl) (da_cons (de_var 1 (pv 1)) (da_cons (de_lst (da_cons de_int (da_cons de_int (da_cons (de_op op_pow d_pow de_int de_int) da_nil)))) da_nil)))))
      (dss_cons (ds_set (ps_set (i := 12) nd rfl (.inl rfl) (de_call C_quotient_sum hr (by decide) tk (by rfl) (da_cons (de_var 11 (pv 11)) (da_cons (de_call C_quotient_product hr (by decide) tk (by rfl) (da_cons (de_var 6 (pv 6)) (da_cons (de_tup (da_cons (de_var 22 (pv 22)) (da_cons de_int da_nil))) da_nil))) da_nil)))))
      (dss_cons (ds_if (dt_cmp (op_neD hr.units) d_ne (de_call C_begins_between hr (by decide) tk (by rfl) (da_cons (de_var 5 (pv 5)) (da_cons (de_var 6 (pv 6)) (da_cons (de_var 11 (pv 11)) (da_cons (de_var 12 (pv 12)) da_nil))))) (de_var 22 (pv 22)) (nomark _)) (dss_one (ds_ret de_bl)) dss_nil)
      (dss_one (ds_if (dt_cmp (op_neD hr.units) d_ne (de_call C_begins_between hr (by decide) tk (by rfl) (da_cons (de_var 5 (pv 5)) (da_cons (de_var 6 (pv 6)) (da_cons (de_tup (da_cons de_int (da_cons de_int da_nil))) (da_cons (de_var 11 (pv 11)) da_nil))))) (de_var 19 (pv 19)) (nomark _)) (dss_one (ds_ret de_bl)) dss_nil)))))))))))))
      (dss_cons (ds_set (ps_set (i := 23) nd rfl (.inl rfl) (de_call C_quotient_sum hr (by decide) tk (by rfl) (da_cons (de_var 5 (pv 5)) (da_cons (de_call C_quotient_product hr (by decide) tk (by rfl) (da_cons (de_var 6 (pv 6)) (da_cons (de_tup (da_cons de_int (da_cons de_int da_nil))) da_nil))) da_nil)))))
      (dss_cons (ds_set (ps_set (i := 10) nd rfl (.inl rfl) (de_call C_begins_between hr (by decide) tk (by rfl) (da_cons (de_var 23 (pv 23)) (da_cons (de_var 6 (pv 6)) (da_cons (de_call C__law_least hr (by decide) tk (by rfl) (da_cons (de_var 18 (pv 18)) (da_cons (de_var 2 (pv 2)) da_nil))) (da_cons (de_call C__law_least hr (by decide) tk (by rfl) (da_cons (de_op o_add d_add (de_var 18 (pv 18)) de_int) (da_cons (de_var 2 (pv 2)) da_nil))) da_nil)))))))
      (dss_cons (ds_if (dt_cmp (op_neD hr.units) d_ne (de_var 10 (pv 10)) (de_call C_begins_between hr (by decide) tk (by rfl) (da_cons (de_var 5 (pv 5)) (da_cons (de_var 6 (pv 6)) (da_cons (de_call C__law_least hr (by decide) tk (by rfl) (da_cons (de_var 18 (pv 18)) (da_cons (de_var 2 (pv 2)) da_nil))) (da_cons (de_call C__law_least hr (by decide) tk (by rfl) (da_cons (de_op o_add d_add (de_var 18 (pv 18)) de_int) (da_cons (de_var 2 (pv 2)) da_nil))) da_nil))))) (nomark _)) (dss_one (ds_ret de_bl)) dss_nil)
      (dss_one (ds_ret (de_and (de_cmp (op_eqD hr.units) d_eq (de_call C_number_at hr (by decide) tk (by rfl) (da_cons (de_var 5 (pv 5)) (da_cons (de_var 6 (pv 6)) (da_cons (de_var 5 (pv 5)) da_nil)))) de_int (nomark _)) (de_and (de_cmp (op_eqD hr.units) d_eq (de_call C_number_from hr (by decide) tk (by rfl) (da_cons (de_var 5 (pv 5)) (da_cons (de_var 6 (pv 6)) (da_cons (de_tup (da_cons de_int (da_cons de_int da_nil))) da_nil)))) de_int (nomark _)) (de_one (de_cmp (op_eqD hr.units) d_eq (de_call C_begins_between hr (by decide) tk (by rfl) (da_cons (de_var 5 (pv 5)) (da_cons (de_var 6 (pv 6)) (da_cons (de_var 5 (pv 5)) (da_cons (de_var 5 (pv 5)) da_nil))))) de_int (nomark _))))))))))))))))))
/-! the head -/
def d_number_part : He.DefD := ⟨("number_part", none), "number_part", "number_part", defArgs s_number_part, defBody s_number_part, defScope s_number_part, [], []⟩
def d_quotient_told : He.DefD := ⟨("quotient_told", none), "quotient_told", "quotient_told", defArgs s_quotient_told, defBody s_quotient_told, defScope s_quotient_told, [], []⟩
def d_quotient_sum : He.DefD := ⟨("quotient_sum", none), "quotient_sum", "quotient_sum", defArgs s_quotient_sum, defBody s_quotient_sum, defScope s_quotient_sum, [], []⟩
def d_quotient_less : He.DefD := ⟨("quotient_less", none), "quotient_less", "quotient_less", defArgs s_quotient_less, defBody s_quotient_less, defScope s_quotient_less, [], []⟩
def d_quotient_product : He.DefD := ⟨("quotient_product", none), "quotient_product", "quotient_product", defArgs s_quotient_product, defBody s_quotient_product, defScope s_quotient_product, [], []⟩
def d_is_below : He.DefD := ⟨("is_below", none), "is_below", "is_below", defArgs s_is_below, defBody s_is_below, defScope s_is_below, [], []⟩
def d_often_in : He.DefD := ⟨("often_in", none), "often_in", "often_in", defArgs s_often_in, defBody s_often_in, defScope s_often_in, [], []⟩
def d_left_of : He.DefD := ⟨("left_of", none), "left_of", "left_of", defArgs s_left_of, defBody s_left_of, defScope s_left_of, [], []⟩
def d_begin_told : He.DefD := ⟨("begin_told", none), "begin_told", "begin_told", defArgs s_begin_told, defBody s_begin_told, defScope s_begin_told, [], []⟩
def d_number_from : He.DefD := ⟨("number_from", none), "number_from", "number_from", defArgs s_number_from, defBody s_number_from, defScope s_number_from, [], []⟩
def d_begin_from : He.DefD := ⟨("begin_from", none), "begin_from", "begin_from", defArgs s_begin_from, defBody s_begin_from, defScope s_begin_from, [], []⟩
def d_number_at : He.DefD := ⟨("number_at", none), "number_at", "number_at", defArgs s_number_at, defBody s_number_at, defScope s_number_at, [], []⟩
def d_begins_between : He.DefD := ⟨("begins_between", none), "begins_between", "begins_between", defArgs s_begins_between, defBody s_begins_between, defScope s_begins_between, [], []⟩
def d__law_source : He.DefD := ⟨("_law_source", none), "_law_source", "_law_source", defArgs s__law_source, defBody s__law_source, defScope s__law_source, [], []⟩
def d__law_pick : He.DefD := ⟨("_law_pick", none), "_law_pick", "_law_pick", defArgs s__law_pick, defBody s__law_pick, defScope s__law_pick, [], []⟩
def d__law_of : He.DefD := ⟨("_law_of", none), "_law_of", "_law_of", defArgs s__law_of, defBody s__law_of, defScope s__law_of, [], []⟩
def d__law_least : He.DefD := ⟨("_law_least", none), "_law_least", "_law_least", defArgs s__law_least, defBody s__law_least, defScope s__law_least, [], []⟩
def d__law_listed : He.DefD := ⟨("_law_listed", none), "_law_listed", "_law_listed", defArgs s__law_listed, defBody s__law_listed, defScope s__law_listed, [], []⟩
def d__law_up : He.DefD := ⟨("_law_up", none), "_law_up", "_law_up", defArgs s__law_up, defBody s__law_up, defScope s__law_up, [], []⟩
def d_law : He.DefD := ⟨("law", none), "law", "law", defArgs s_law, defBody s_law, defScope s_law, [], []⟩
def fn : List He.DefD := [d_number_part, d_quotient_told, d_quotient_sum, d_quotient_less, d_quotient_product, d_is_below, d_often_in, d_left_of, d_begin_told, d_number_from, d_begin_from, d_number_at, d_begins_between, d__law_source, d__law_pick, d__law_of, d__law_least, d__law_listed, d__law_up, d_law]
def fa : List He.Fa := [.glo "number_part", .glo "quotient_told", .glo "quotient_sum", .glo "quotient_less", .glo "quotient_product", .glo "is_below", .glo "often_in", .glo "left_of", .glo "begin_told", .glo "number_from", .glo "begin_from", .glo "number_at", .glo "begins_between", .glo "_law_source", .glo "_law_pick", .glo "_law_of", .glo "_law_least", .glo "_law_listed", .glo "_law_up", .glo "law", .free "abs", .free "int", .free "len", .free "max", .free "range"]
abbrev R : PySem.W.OpenRow := PySem.W.OpenLaw.row PySem.Challenge.rw_beatsnested_k08_begins_counted_far
abbrev hk : PySem.W.Hook := He.hookD 4 fa fn
def ob (s : PySem.W.SharedT) : He.AlD := He.obsDG 4 fa fn (HandSHeadRun.getT s)
theorem ob_eq (s : PySem.W.SharedT) : ob s = hk.obs s.abs := He.obsDG_eq (HandSHeadRun.getT_eq s)
def loose0 : List PySem.Str := ["number_part", "quotient_told", "quotient_sum", "quotient_less", "quotient_product", "is_below", "often_in", "left_of", "begin_told", "number_from", "begin_from", "number_at", "begins_between", "_law_source", "_law_pick", "_law_of", "_law_least", "_law_listed", "_law_up"]
def loose : List PySem.Str := loose0
set_option maxHeartbeats 0 in
theorem run (w : World) : HandSHeadRun.RunEq R (PySem.W.view R.prog [21]) hk ob 1720 loose w := by
  intro os
  kernel_rfl
theorem facts {P : Program} {w : World} {K : PySem.W.Frag} {h : Heap} {mg : Str → Option Value} {fad : Addr} (X : K.In h) (GN : h.Ns mainGlobals mg) (hfa : mg ("law" : Str) = some (.ref fad)) (c : He.SaysD G.fa G.fn K) :
    ∃ fd : FuncData, (∀ (s : Shared) (v : Value), BindsTo s fd ⟨[v], []⟩ [("script", v)]) ∧ ∀ base : Heap, FnOk P w K mg base (L2.CX P w) 6 fad fd ["script"] (spD K 1 F_law) := by
  have nb : NB mg := ⟨He.free_ok X GN (c.fact 20 (f := .free "abs") rfl), He.free_ok X GN (c.fact 21 (f := .free "int") rfl), He.free_ok X GN (c.fact 22 (f := .free "len") rfl), He.free_ok X GN (c.fact 23 (f := .free "max") rfl), He.free_ok X GN (c.fact 24 (f := .free "range") rfl)⟩
  obtain ⟨fd_number_part, D_number_part⟩ := c.def_ 0 (d := d_number_part) rfl
  obtain ⟨fd_quotient_told, D_quotient_told⟩ := c.def_ 1 (d := d_quotient_told) rfl
  obtain ⟨fd_quotient_sum, D_quotient_sum⟩ := c.def_ 2 (d := d_quotient_sum) rfl
  obtain ⟨fd_quotient_less, D_quotient_less⟩ := c.def_ 3 (d := d_quotient_less) rfl
  obtain ⟨fd_quotient_product, D_quotient_product⟩ := c.def_ 4 (d := d_quotient_product) rfl
  obtain ⟨fd_is_below, D_is_below⟩ := c.def_ 5 (d := d_is_below) rfl
  obtain ⟨fd_often_in, D_often_in⟩ := c.def_ 6 (d := d_often_in) rfl
  obtain ⟨fd_left_of, D_left_of⟩ := c.def_ 7 (d := d_left_of) rfl
  obtain ⟨fd_begin_told, D_begin_told⟩ := c.def_ 8 (d := d_begin_told) rfl
  obtain ⟨fd_number_from, D_number_from⟩ := c.def_ 9 (d := d_number_from) rfl
  obtain ⟨fd_begin_from, D_begin_from⟩ := c.def_ 10 (d := d_begin_from) rfl
  obtain ⟨fd_number_at, D_number_at⟩ := c.def_ 11 (d := d_number_at) rfl
  obtain ⟨fd_begins_between, D_begins_between⟩ := c.def_ 12 (d := d_begins_between) rfl
  obtain ⟨fd__law_source, D__law_source⟩ := c.def_ 13 (d := d__law_source) rfl
  obtain ⟨fd__law_pick, D__law_pick⟩ := c.def_ 14 (d := d__law_pick) rfl
  obtain ⟨fd__law_of, D__law_of⟩ := c.def_ 15 (d := d__law_of) rfl
  obtain ⟨fd__law_least, D__law_least⟩ := c.def_ 16 (d := d__law_least) rfl
  obtain ⟨fd__law_listed, D__law_listed⟩ := c.def_ 17 (d := d__law_listed) rfl
  obtain ⟨fd__law_up, D__law_up⟩ := c.def_ 18 (d := d__law_up) rfl
  obtain ⟨fd_law, D_law⟩ := c.def_ 19 (d := d_law) rfl
  have e := hfa.symm.trans (He.glo_ok X GN (c.fact 19 (f := .glo "law") rfl))
  cases e
  have b := FunD.bindsA (ps := ["script"]) D_law fun _ _ _ _ _ _ us hl => match us, hl with | [_], _ => rfl
  refine ⟨fd_law, fun s v => b s [v] rfl, fun base => ?_⟩
  have C_number_part : Callee P w K mg base 1 "number_part" 2 F_number_part := ok_number_part nb  D_number_part (He.glo_ok X GN (c.fact 0 (f := .glo "number_part") rfl))
  have C_quotient_told : Callee P w K mg base 2 "quotient_told" 2 F_quotient_told := ok_quotient_told nb C_number_part D_quotient_told (He.glo_ok X GN (c.fact 1 (f := .glo "quotient_told") rfl))
  have C_quotient_sum : Callee P w K mg base 3 "quotient_sum" 2 F_quotient_sum := ok_quotient_sum nb C_quotient_told D_quotient_sum (He.glo_ok X GN (c.fact 2 (f := .glo "quotient_sum") rfl))
  have C_quotient_less : Callee P w K mg base 3 "quotient_less" 2 F_quotient_less := ok_quotient_less nb C_quotient_told D_quotient_less (He.glo_ok X GN (c.fact 3 (f := .glo "quotient_less") rfl))
  have C_quotient_product : Callee P w K mg base 3 "quotient_product" 2 F_quotient_product := ok_quotient_product nb C_quotient_told D_quotient_product (He.glo_ok X GN (c.fact 4 (f := .glo "quotient_product") rfl))
  have C_is_below : Callee P w K mg base 1 "is_below" 2 F_is_below := ok_is_below nb  D_is_below (He.glo_ok X GN (c.fact 5 (f := .glo "is_below") rfl))
  have C_often_in : Callee P w K mg base 1 "often_in" 2 F_often_in := ok_often_in nb  D_often_in (He.glo_ok X GN (c.fact 6 (f := .glo "often_in") rfl))
  have C_left_of : Callee P w K mg base 4 "left_of" 2 F_left_of := ok_left_of nb C_quotient_less C_quotient_told C_often_in D_left_of (He.glo_ok X GN (c.fact 7 (f := .glo "left_of") rfl))
  have C_begin_told : Callee P w K mg base 4 "begin_told" 3 F_begin_told := ok_begin_told nb C_quotient_sum C_quotient_told D_begin_told (He.glo_ok X GN (c.fact 8 (f := .glo "begin_told") rfl))
  have C_number_from : Callee P w K mg base 4 "number_from" 3 F_number_from := ok_number_from nb C_often_in C_quotient_less D_number_from (He.glo_ok X GN (c.fact 9 (f := .glo "number_from") rfl))
  have C_begin_from : Callee P w K mg base 5 "begin_from" 3 F_begin_from := ok_begin_from nb C_begin_told C_number_from D_begin_from (He.glo_ok X GN (c.fact 10 (f := .glo "begin_from") rfl))
  have C_number_at : Callee P w K mg base 4 "number_at" 3 F_number_at := ok_number_at nb C_is_below C_often_in C_quotient_less D_number_at (He.glo_ok X GN (c.fact 11 (f := .glo "number_at") rfl))
  have C_begins_between : Callee P w K mg base 5 "begins_between" 4 F_begins_between := ok_begins_between nb C_number_from D_begins_between (He.glo_ok X GN (c.fact 12 (f := .glo "begins_between") rfl))
  have C__law_source : Callee P w K mg base 1 "_law_source" 1 F__law_source := ok__law_source nb  D__law_source (He.glo_ok X GN (c.fact 13 (f := .glo "_law_source") rfl))
  have C__law_pick : Callee P w K mg base 1 "_law_pick" 2 F__law_pick := ok__law_pick nb  D__law_pick (He.glo_ok X GN (c.fact 14 (f := .glo "_law_pick") rfl))
  have C__law_of : Callee P w K mg base 2 "_law_of" 2 F__law_of := ok__law_of nb C__law_pick D__law_of (He.glo_ok X GN (c.fact 15 (f := .glo "_law_of") rfl))
  have C__law_least : Callee P w K mg base 1 "_law_least" 2 F__law_least := ok__law_least nb  D__law_least (He.glo_ok X GN (c.fact 16 (f := .glo "_law_least") rfl))
  have C__law_listed : Callee P w K mg base 1 "_law_listed" 4 F__law_listed := ok__law_listed nb  D__law_listed (He.glo_ok X GN (c.fact 17 (f := .glo "_law_listed") rfl))
  have C__law_up : Callee P w K mg base 1 "_law_up" 2 F__law_up := ok__law_up nb  D__law_up (He.glo_ok X GN (c.fact 18 (f := .glo "_law_up") rfl))
  exact ok_law nb C__law_source C_quotient_sum C_begins_between C__law_pick C__law_least C__law_listed C_quotient_less C__law_of C_quotient_product C_quotient_told C_begin_from C_number_at C__law_up C_is_below C_number_from C_begin_told C_often_in C_left_of D_law
end G
namespace G
open PySem PySem.Spec PyProof.Rows L2 PL Q
local macro_rules | `(tactic| walk_at "ev") => `(tactic| simp only [ev_run, stEnv, List.map, List.length, List.replicate, List.cons_append, List.nil_append, Nat.reduceSub, Nat.reduceAdd, Nat.sub_self, Nat.zero_add,
  xb_ok, xb_er, xb_none, xbS_ok, xbS_er, xbS_none, ret_some, ev_var, rdV_val, rdV_ml, env_mk, src_mk, ev_c, set_mk, List.set, List.getElem?_cons_zero, List.getElem?_cons_succ,
  ev_bin, ev_bin2, ev_bin1, ev_un, ev_un1, ev_blt, ev_blt1, ev_tup, ev_lst, ev_ix, ev_asB, ev_asB1, ev_and, ev_and_t, ev_and_f, ev_or, ev_or_t, ev_or_f, ev_not, ev_not1, ev_if, ev_if_t, ev_if_f, ev_toB, ev_toB1,
  ev_andV, ev_andV_t, ev_andV_f, ev_orV, ev_orV_t, ev_orV_f, ev_notV, ev_notV1, ev_nil, ev_cons, ev_cons1, ev_cons2,
  ev_seq, sq_nx, sq_rt, sq_er, sq_bk, sq_ct, ev_next, ev_break, ev_cont, ev_drop, ev_drop1, ev_ret, ev_ret1, ev_retN, ev_ifS, ev_ifS_t, ev_ifS_f, nxO_some, ev_asg, ev_asg1, ev_gN, ev_gTp, ev_gsNil, ev_gsCons, obS_some,
  lw_nx, lw_ct, lw_bk, lw_rt, lw_er, lp_nx, lp_ct, lp_bk, lp_rt, lp_er, ev_wh_t, ev_wh_f, cmpIf_ok,
  ev_new, ev_new1, ev_par, ev_par1, ev_parNew, ev_parNew1, ev_parNew2, ev_for, ev_for1, ev_forNil,
  ev_call, ev_call1, cR_ok, cR_er, end_rt, end_nx, end_er,
  ev_app, onMl_ml, ev_app1, ev_app2, ev_asL, mlOf_ml, ev_lenM, lenO_some,
  ev_get, ev_get1, ev_put, ev_put1, ev_put2, ev_slen, ev_slen1, ev_spop, ev_spop1, ev_spop2, ev_snew, ev_snew1, ev_scr, ev_scr1, ev_seqOf, ev_seqOf1, ev_tupOf, ev_tupOf1, ev_r1, ev_r11, ev_r2, ev_r21,
  ev_comp, cmpO_some, ev_cmpNil, cmpT_t, cmpT_f, ev_yes, backP_mk, wipeP_mk, wipeE, backE, Option.getD_some, Option.getD_none, onT_some, onG_some,
  gI_int, gAdd_int, gNeg_int, gAbs_int, gMax2_int, gMin2_int, gIntA_int, gIntA_bl, gLen_lst, gLen_tup, gIx_tup, gIx_lst, mkTup_ok, mkLst_ok, atI0, atI1, atI2, atI3, sm0, sm1, sm2, sm3, sm4, sm5, sm6, sm7, sm8, sml0, gEq_int, gNe_int,
  Fld.get, Fld.put, if_true, if_false, ite_true, ite_false, Bool.false_eq_true, decide_true, decide_false, not_true_eq_false, not_false_eq_true, Int.reduceLT, Int.reduceLE, Bool.not_true, Bool.not_false, ite_self, Int.reduceNeg, and_self, and_true, true_and, and_false, false_and, Int.reducePow])
local macro_rules | `(tactic| walk_at "evs") => `(tactic| simp only [ev_run, stEnv, List.map, List.length, List.replicate, List.cons_append, List.nil_append, Nat.reduceSub, Nat.reduceAdd, Nat.sub_self, Nat.zero_add,
  xb_ok, xb_er, xb_none, xbS_ok, xbS_er, xbS_none, ret_some, ev_var, rdV_val, rdV_ml, env_mk, src_mk, ev_c, set_mk, List.set, List.getElem?_cons_zero, List.getElem?_cons_succ,
  ev_bin, ev_bin2, ev_bin1, ev_un, ev_un1, ev_blt, ev_blt1, ev_tup, ev_lst, ev_ix, ev_asB, ev_asB1, ev_and, ev_and_t, ev_and_f, ev_or, ev_or_t, ev_or_f, ev_not, ev_not1, ev_if, ev_if_t, ev_if_f, ev_toB, ev_toB1,
  ev_andV, ev_andV_t, ev_andV_f, ev_orV, ev_orV_t, ev_orV_f, ev_notV, ev_notV1, ev_nil, ev_cons, ev_cons1, ev_cons2,
  ev_seq, sq_nx, sq_rt, sq_er, sq_bk, sq_ct, ev_next, ev_break, ev_cont, ev_drop, ev_drop1, ev_ret, ev_ret1, ev_retN, ev_ifS, ev_ifS_t, ev_ifS_f, nxO_some, ev_asg, ev_asg1, ev_gN, ev_gTp, ev_gsNil, ev_gsCons, obS_some,
  lw_nx, lw_ct, lw_bk, lw_rt, lw_er, lp_nx, lp_ct, lp_bk, lp_rt, lp_er, ev_wh_t, ev_wh_f, cmpIf_ok,
  ev_new, ev_new1, ev_par, ev_par1, ev_parNew, ev_parNew1, ev_parNew2, ev_for, ev_for1, ev_forNil,
  ev_call, ev_call1, cR_ok, cR_er, end_rt, end_nx, end_er,
  ev_app, onMl_ml, ev_app1, ev_app2, ev_asL, mlOf_ml, ev_lenM, lenO_some,
  ev_get, ev_get1, ev_put, ev_put1, ev_put2, ev_slen, ev_slen1, ev_spop, ev_spop1, ev_spop2, ev_snew, ev_snew1, ev_scr, ev_scr1, ev_seqOf, ev_seqOf1, ev_tupOf, ev_tupOf1, ev_r1, ev_r11, ev_r2, ev_r21,
  ev_comp, cmpO_some, ev_cmpNil, cmpT_t, cmpT_f, ev_yes, backP_mk, wipeP_mk, wipeE, backE, Option.getD_some, Option.getD_none, onT_some, onG_some,
  gI_int, gAdd_int, gNeg_int, gAbs_int, gMax2_int, gMin2_int, gIntA_int, gIntA_bl, gLen_lst, gLen_tup, gIx_tup, gIx_lst, mkTup_ok, mkLst_ok, atI0, atI1, atI2, atI3, sm0, sm1, sm2, sm3, sm4, sm5, sm6, sm7, sm8, sml0, gEq_int, gNe_int,
  Fld.get, Fld.put, if_true, if_false, ite_true, ite_false, Bool.false_eq_true, decide_true, decide_false, not_true_eq_false, not_false_eq_true, Int.reduceLT, Int.reduceLE, Bool.not_true, Bool.not_false, ite_self, Int.reduceNeg, and_self, and_true, true_and, and_false, false_and, Int.reducePow,
  gIc_int, gMulA_int, *])
/-! the greatest common divisor once more -/
theorem euclid2 (n : Nat) : ∀ (x y : D) (h t : Int) (s : Option Src), 0 ≤ h → 0 ≤ t → t.toNat < n →
    xWhileN c1__law_least b1__law_least n
      ⟨[some (.val x), some (.val y), some (.val (.int h)), some (.val (.int t))], s⟩ = some (.nx ⟨[some (.val x), some (.val y), some (.val (.int (Int.gcd h t))), some (.val (.int 0))], s⟩) := by
  induction n with
  | zero => intro x y h t s _ _ h3; omega
  | succ n ih =>
    intro x y h t s h1 h2 h3
    rw [ev_whN, c1__law_least]
    by_cases ht : 0 < t
    · have e := Int.emod_nonneg h (show t ≠ 0 by omega)
      have e2 := Int.emod_lt_of_pos h ht
      rw [← gcd_step, ← ih x y t (h % t) s h2 e (by omega)]
      clear ih e e2
      walk_at "evs"
      rw [b1__law_least]
      walk_at "evs"
    · have : t = 0 := by omega
      subst this
      walk_at "evs"
      simp [Int.natAbs_of_nonneg h1]
theorem least_eq (t b : Int) (s : Option Src) (h0 : 0 < b) (hb : Bd 8500 b.natAbs) : F__law_least [.int t, .int b] s = some (.ok (fr (Rat.divInt t b)) s) := by
  have g0 : 0 < Int.gcd t b := Int.gcd_pos_of_ne_zero_right _ (by omega)
  have gl : Bd 8500 (Int.gcd t b) := hb.le (Nat.le_of_dvd (by omega) (by rw [Int.gcd_comm]; exact Int.gcd_dvd_natAbs_left ..))
  have e1 := div_okN (i := t) g0 gl
  have e2 := div_okN (i := b) g0 gl
  have ge : Int.gcd t.natAbs b = Int.gcd t b := by simp [Int.gcd]
  unfold F__law_least B__law_least
  walk_at "ev"
  rw [abs_eq, xWhile_of (euclid2 (b.toNat + 1) (.int t) (.int b) t.natAbs b s (by omega) (by omega) (by omega)), ge]
  unfold fr
  rw [Rat.num_divInt, Rat.den_divInt, if_neg (by omega), Int.gcd_comm b t]
  have hd : ((b.natAbs / Int.gcd t b : Nat) : Int) = (b.natAbs : Int) / (Int.gcd t b : Int) := Int.natCast_ediv _ _
  rw [hd, Int.sign_eq_one_of_pos h0, Int.one_mul, Int.natAbs_of_nonneg (by omega)]
  clear hb h0 g0 gl hd ge
  walk_at "evs"
/-! the listing -/
def lst (o p : Int) (a n : Nat) : List D := (List.range' a n).map fun (k : Nat) => D.int (o + k * p)
theorem lst_len {o p : Int} {a n : Nat} : (lst o p a n).length = n := by simp [lst]
theorem lst_succ {o p : Int} {a n : Nat} : lst o p a (n + 1) = lst o p a n ++ [.int (o + ((a + n : Nat) : Int) * p)] := by
  unfold lst
  rw [List.range'_concat, List.map_append]
  simp
theorem listed_loop (o p lo hi : Int) (hp : 0 < p) (s : Option Src) : ∀ (m i : Nat) (x : Option Sl), nf o p hi < i + m → i ≤ nf o p hi → i + m ≤ 300 → ∃ x',
    xForL (gN 6) b1__law_listed ((List.range' i m).map fun (k : Nat) => D.int (0 + k)) ⟨[some (.val (.int o)), some (.val (.int p)), some (.val (.int lo)), some (.val (.int hi)), some (.ml (lst o p (nf o p lo) (i - nf o p lo))), some (.val (.int (o + i * p))), x], s⟩
      = some (.nx ⟨[some (.val (.int o)), some (.val (.int p)), some (.val (.int lo)), some (.val (.int hi)), some (.ml (lst o p (nf o p lo) (nf o p hi - nf o p lo))), some (.val (.int (o + nf o p hi * p))), x'], s⟩)
  | 0, i, x, h1, h2, h3 => by omega
  | m + 1, i, x, h1, h2, h3 => by
    rw [List.range'_succ, List.map_cons, ev_forCons]
    by_cases e : i = nf o p hi
    · have c : hi ≤ o + i * p := (nf_le hp i).mpr (by omega)
      refine ⟨some (.val (.int (0 + i))), ?_⟩
      rw [← e]
      clear e
      walk_at "ev"
      rw [b1__law_listed]
      walk_at "evs"
    · have c : ¬ hi ≤ o + i * p := fun h => e (by have := (nf_le hp i).mp h; omega)
      obtain ⟨x', ih⟩ := listed_loop o p lo hi hp s m (i + 1) (some (.val (.int (0 + i)))) (by omega) (by omega) (by omega)
      refine ⟨x', ?_⟩
      rw [← ih]
      clear ih
      have e2 : o + ((i + 1 : Nat) : Int) * p = o + i * p + p := by rw [Int.natCast_add, Int.add_mul]; omega
      rw [e2]
      by_cases d : lo ≤ o + i * p
      · have d2 := (nf_le hp i).mp d
        have e3 : i + 1 - nf o p lo = (i - nf o p lo) + 1 := by omega
        have e4 : nf o p lo + (i - nf o p lo) = i := by omega
        rw [e3, lst_succ, e4]
        have l : (lst o p (nf o p lo) (i - nf o p lo)).length < smallN := by rw [lst_len]; unfold smallN; omega
        clear h1 h2 h3 e e2 e3 e4
        walk_at "ev"
        rw [b1__law_listed]
        walk_at "evs"
      · have d2 : ¬ nf o p lo ≤ i := fun h => d ((nf_le hp i).mpr h)
        have e3 : i + 1 - nf o p lo = 0 := by omega
        have e4 : i - nf o p lo = 0 := by omega
        rw [e3, e4]
        clear h1 h2 h3 e e2 e3 e4
        walk_at "ev"
        rw [b1__law_listed]
        walk_at "evs"
theorem listed_eq (o p lo hi : Int) (hp : 0 < p) (hl : nf o p hi < 300) (s : Option Src) : F__law_listed [.int o, .int p, .int lo, .int hi] s = some (.ok (.lst (lst o p (nf o p lo) (nf o p hi - nf o p lo))) s) := by
  unfold F__law_listed B__law_listed
  walk_at "ev"
  obtain ⟨x', e⟩ := listed_loop o p lo hi hp s 300 0 none (by omega) (by omega) (by omega)
  have e0 : rangeL 0 (300 : Int).toNat = (List.range' 0 300).map fun (k : Nat) => D.int (0 + k) := by
    unfold rangeL
    rw [List.range_eq_range']
    rfl
  rw [e0]
  rw [show lst o p (nf o p lo) (0 - nf o p lo) = [] by rw [Nat.zero_sub]; rfl, show o + ((0 : Nat) : Int) * p = o by simp] at e
  rw [e]
  walk_at "ev"
theorem up_eq (t b : Int) (h0 : 0 < b) (hb : Bd 8500 b.natAbs) (s : Option Src) : F__law_up [.int t, .int b] s = some (.ok (.int (max 0 (0 - (0 - t) / b))) s) := by
  have d := divOk_s (i := 0 - t) h0 hb
  unfold F__law_up B__law_up
  walk_at "evs"
  rw [PL.max2_eq]
end G
namespace G
open PySem PySem.Spec PyProof.Rows L2 PL Q
local macro_rules | `(tactic| walk_at "ev") => `(tactic| simp only [ev_run, stEnv, List.map, List.length, List.replicate, List.cons_append, List.nil_append, Nat.reduceSub, Nat.reduceAdd, Nat.sub_self, Nat.zero_add,
  xb_ok, xb_er, xb_none, xbS_ok, xbS_er, xbS_none, ret_some, ev_var, rdV_val, rdV_ml, env_mk, src_mk, ev_c, set_mk, List.set, List.getElem?_cons_zero, List.getElem?_cons_succ,
  ev_bin, ev_bin2, ev_bin1, ev_un, ev_un1, ev_blt, ev_blt1, ev_tup, ev_lst, ev_ix, ev_asB, ev_asB1, ev_and, ev_and_t, ev_and_f, ev_or, ev_or_t, ev_or_f, ev_not, ev_not1, ev_if, ev_if_t, ev_if_f, ev_toB, ev_toB1,
  ev_andV, ev_andV_t, ev_andV_f, ev_orV, ev_orV_t, ev_orV_f, ev_notV, ev_notV1, ev_nil, ev_cons, ev_cons1, ev_cons2,
  ev_seq, sq_nx, sq_rt, sq_er, sq_bk, sq_ct, ev_next, ev_break, ev_cont, ev_drop, ev_drop1, ev_ret, ev_ret1, ev_retN, ev_ifS, ev_ifS_t, ev_ifS_f, nxO_some, ev_asg, ev_asg1, ev_gN, ev_gTp, ev_gsNil, ev_gsCons, obS_some,
  lw_nx, lw_ct, lw_bk, lw_rt, lw_er, lp_nx, lp_ct, lp_bk, lp_rt, lp_er, ev_wh_t, ev_wh_f, cmpIf_ok,
  ev_new, ev_new1, ev_par, ev_par1, ev_parNew, ev_parNew1, ev_parNew2, ev_for, ev_for1, ev_forNil,
  ev_call, ev_call1, cR_ok, cR_er, end_rt, end_nx, end_er,
  ev_app, onMl_ml, ev_app1, ev_app2, ev_asL, mlOf_ml, ev_lenM, lenO_some,
  ev_get, ev_get1, ev_put, ev_put1, ev_put2, ev_slen, ev_slen1, ev_spop, ev_spop1, ev_spop2, ev_snew, ev_snew1, ev_scr, ev_scr1, ev_seqOf, ev_seqOf1, ev_tupOf, ev_tupOf1, ev_r1, ev_r11, ev_r2, ev_r21,
  ev_comp, cmpO_some, ev_cmpNil, cmpT_t, cmpT_f, ev_yes, backP_mk, wipeP_mk, wipeE, backE, Option.getD_some, Option.getD_none, onT_some, onG_some,
  gI_int, gAdd_int, gNeg_int, gAbs_int, gMax2_int, gMin2_int, gIntA_int, gIntA_bl, gLen_lst, gLen_tup, gIx_tup, gIx_lst, mkTup_ok, mkLst_ok, atI0, atI1, atI2, atI3, sm0, sm1, sm2, sm3, sm4, sm5, sm6, sm7, sm8, sml0, gEq_int, gNe_int,
  Fld.get, Fld.put, if_true, if_false, ite_true, ite_false, Bool.false_eq_true, decide_true, decide_false, not_true_eq_false, not_false_eq_true, Int.reduceLT, Int.reduceLE, Bool.not_true, Bool.not_false, ite_self, Int.reduceNeg, and_self, and_true, true_and, and_false, false_and, Int.reducePow])
local macro_rules | `(tactic| walk_at "evs") => `(tactic| simp only [ev_run, stEnv, List.map, List.length, List.replicate, List.cons_append, List.nil_append, Nat.reduceSub, Nat.reduceAdd, Nat.sub_self, Nat.zero_add,
  xb_ok, xb_er, xb_none, xbS_ok, xbS_er, xbS_none, ret_some, ev_var, rdV_val, rdV_ml, env_mk, src_mk, ev_c, set_mk, List.set, List.getElem?_cons_zero, List.getElem?_cons_succ,
  ev_bin, ev_bin2, ev_bin1, ev_un, ev_un1, ev_blt, ev_blt1, ev_tup, ev_lst, ev_ix, ev_asB, ev_asB1, ev_and, ev_and_t, ev_and_f, ev_or, ev_or_t, ev_or_f, ev_not, ev_not1, ev_if, ev_if_t, ev_if_f, ev_toB, ev_toB1,
  ev_andV, ev_andV_t, ev_andV_f, ev_orV, ev_orV_t, ev_orV_f, ev_notV, ev_notV1, ev_nil, ev_cons, ev_cons1, ev_cons2,
  ev_seq, sq_nx, sq_rt, sq_er, sq_bk, sq_ct, ev_next, ev_break, ev_cont, ev_drop, ev_drop1, ev_ret, ev_ret1, ev_retN, ev_ifS, ev_ifS_t, ev_ifS_f, nxO_some, ev_asg, ev_asg1, ev_gN, ev_gTp, ev_gsNil, ev_gsCons, obS_some,
  lw_nx, lw_ct, lw_bk, lw_rt, lw_er, lp_nx, lp_ct, lp_bk, lp_rt, lp_er, ev_wh_t, ev_wh_f, cmpIf_ok,
  ev_new, ev_new1, ev_par, ev_par1, ev_parNew, ev_parNew1, ev_parNew2, ev_for, ev_for1, ev_forNil,
  ev_call, ev_call1, cR_ok, cR_er, end_rt, end_nx, end_er,
  ev_app, onMl_ml, ev_app1, ev_app2, ev_asL, mlOf_ml, ev_lenM, lenO_some,
  ev_get, ev_get1, ev_put, ev_put1, ev_put2, ev_slen, ev_slen1, ev_spop, ev_spop1, ev_spop2, ev_snew, ev_snew1, ev_scr, ev_scr1, ev_seqOf, ev_seqOf1, ev_tupOf, ev_tupOf1, ev_r1, ev_r11, ev_r2, ev_r21,
  ev_comp, cmpO_some, ev_cmpNil, cmpT_t, cmpT_f, ev_yes, backP_mk, wipeP_mk, wipeE, backE, Option.getD_some, Option.getD_none, onT_some, onG_some,
  gI_int, gAdd_int, gNeg_int, gAbs_int, gMax2_int, gMin2_int, gIntA_int, gIntA_bl, gLen_lst, gLen_tup, gIx_tup, gIx_lst, mkTup_ok, mkLst_ok, atI0, atI1, atI2, atI3, sm0, sm1, sm2, sm3, sm4, sm5, sm6, sm7, sm8, sml0, gEq_int, gNe_int,
  Fld.get, Fld.put, if_true, if_false, ite_true, ite_false, Bool.false_eq_true, decide_true, decide_false, not_true_eq_false, not_false_eq_true, Int.reduceLT, Int.reduceLE, Bool.not_true, Bool.not_false, ite_self, Int.reduceNeg, and_self, and_true, true_and, and_false, false_and, Int.reducePow,
  gIc_int, gMulA_int, *])
theorem bd60 {i : Int} (h : i.natAbs < 2 ^ 40) {k : Nat} (hk : 40 ≤ k := by decide) : Bd k i.natAbs := (bd_small 40 h).mono hk
section
variable {o p b : Int} (ho : Bd 970 o.natAbs) (hp0 : 0 < p) (hp : Bd 40 p.natAbs) (hb0 : 0 < b) (hb : Bd 40 b.natAbs) {m m' : Int} (hm : Bd 970 m.natAbs) (hm' : Bd 970 m'.natAbs) (s : Option Src)
theorem rb {t : Int} (hb0 : 0 < b) (hb : Bd 40 b.natAbs) (h : Bd 970 t.natAbs) {n : Nat} (hn : 970 ≤ n := by decide) : Rb n (Rat.divInt t b) := (Rb.q hb0 h (hb.mono (by decide))).mono hn
include ho hp0 hp hb0 hb hm in
theorem nfq : F_number_from [fr (Rat.divInt o b), fr (Rat.divInt p b), fr (Rat.divInt m b)] s = some (.ok (.int (nf o p m)) s) := by
  rw [number_from_eq s (rb hb0 hb ho) (rb hb0 hb (hp.mono (by decide))) (rb hb0 hb hm) (q_pos hp0 hb0), nfr_q hb0 hp0]
include ho hp0 hp hb0 hb hm hm' in
theorem bbq : F_begins_between [fr (Rat.divInt o b), fr (Rat.divInt p b), fr (Rat.divInt m b), fr (Rat.divInt m' b)] s = some (.ok (.int ((nf o p m' : Int) - nf o p m)) s) := by
  rw [begins_between_eq s (rb hb0 hb ho) (rb hb0 hb (hp.mono (by decide))) (rb hb0 hb hm) (rb hb0 hb hm') (q_pos hp0 hb0), nfr_q hb0 hp0, nfr_q hb0 hp0]
include ho hp0 hp hb0 hb hm in
theorem bfq : F_begin_from [fr (Rat.divInt o b), fr (Rat.divInt p b), fr (Rat.divInt m b)] s = some (.ok (fr (Rat.divInt (o + nf o p m * p) b)) s) := by
  rw [begin_from_eq s (rb hb0 hb ho) (rb hb0 hb (hp.mono (by decide))) (rb hb0 hb hm) (q_pos hp0 hb0), nfr_q hb0 hp0, q_mul, q_add]
include ho hp hb0 hb in
theorem btq {n : Int} (hn : Bd 1900 n.natAbs) : F_begin_told [fr (Rat.divInt o b), fr (Rat.divInt p b), .int n] s = some (.ok (fr (Rat.divInt (o + n * p) b)) s) := by
  rw [begin_told_eq s (rb hb0 hb ho) (rb hb0 hb (hp.mono (by decide))) (hn.mono (by decide)), q_mul, q_add]
include ho hp0 hp hb0 hb hm in
theorem naq : F_number_at [fr (Rat.divInt o b), fr (Rat.divInt p b), fr (Rat.divInt m b)] s = some (.ok (if m < o then .non else .int ((m - o) / p)) s) := by
  rw [number_at_eq s (rb hb0 hb ho) (rb hb0 hb (hp.mono (by decide))) (rb hb0 hb hm) (q_pos hp0 hb0), q_div hb0 hp0, floor_div _ _ hp0]
  simp only [q_lt hb0]
end
theorem lap_ok {b o p : Int} (hb0 : 0 < b) (hb : b ≤ 12) (ho0 : 0 ≤ o) (ho : o < 40) (hp0 : 0 < p) (hp : p ≤ 30) (sc : D) (lap : D) (x8 x9 x10 x11 x12 x13 x14 x15 x16 x17 : Option Sl) (s : Src) :
    ∃ y8 y9 y10 y11 y12 y13 y14 y15 y16 y17 s', b1_law ⟨[some (.val sc), some (.val .src), some (.val (.int b)), some (.val (.int o)), some (.val (.int p)), some (.val (fr (Rat.divInt o b))), some (.val (fr (Rat.divInt p b))), some (.val lap),
        x8, x9, x10, x11, x12, x13, x14, x15, x16, x17, none, none, none, none, none, none], some s⟩
      = some (.nx ⟨[some (.val sc), some (.val .src), some (.val (.int b)), some (.val (.int o)), some (.val (.int p)), some (.val (fr (Rat.divInt o b))), some (.val (fr (Rat.divInt p b))), some (.val lap),
        y8, y9, y10, y11, y12, y13, y14, y15, y16, y17, none, none, none, none, none, none], some s'⟩) := by
  obtain ⟨low, s1, e1, l0, l1⟩ := pick_n s 150 (bd60 (by decide)) (by decide)
  obtain ⟨r, s2, e2, r0, r1⟩ := pick_n s1 60 (bd60 (by decide)) (by decide)
  obtain ⟨t, s3, e3, t0, t1⟩ := pick_n s2 (low + r - low + 1) (bd60 (by omega)) (by omega)
  have Bo : Bd 970 o.natAbs := bd60 (by omega)
  have Bp : Bd 40 p.natAbs := bd60 (by omega)
  have Bb : Bd 40 b.natAbs := bd60 (by omega)
  have Bb' : Bd 8500 b.natAbs := bd60 (by omega)
  have Bl : Bd 970 low.natAbs := bd60 (by omega)
  have Bh : Bd 970 (low + r).natAbs := bd60 (by omega)
  have Bm : Bd 970 (low + t).natAbs := bd60 (by omega)
  -- how many
  have small : ∀ m : Int, m < 290 → nf o p m < 300 := fun m hm => by
    refine Nat.lt_of_le_of_lt ((nf_le hp0 290).mp ?_) (by decide)
    have : (290 : Int) * 1 ≤ 290 * p := Int.mul_le_mul_of_nonneg_left (by omega) (by decide)
    omega
  have n0 : nf o p 0 = 0 := nf_low hp0 ho0
  have nl : (nf o p low : Int) ≤ 300 := by have := small low (by omega); omega
  have first : o + nf o p low * p < low + p + o + 1 := by
    by_cases h : low ≤ o
    · rw [nf_low hp0 h]; simp; omega
    · have : ¬ (nf o p low ≤ nf o p low - 1) := by
        have : nf o p low ≠ 0 := fun e => h (by have := (nf_le (o := o) (m := low) hp0 0).mpr (by omega); simpa using this)
        omega
      have h2 : ¬ low ≤ o + ((nf o p low - 1 : Nat) : Int) * p := fun h => this ((nf_le hp0 _).mp h)
      have : ((nf o p low - 1 : Nat) : Int) * p = nf o p low * p - p := by
        have : nf o p low ≠ 0 := fun e => h (by have := (nf_le (o := o) (m := low) hp0 0).mpr (by omega); simpa using this)
        rw [show ((nf o p low - 1 : Nat) : Int) = (nf o p low : Int) - 1 by omega, Int.sub_mul, Int.one_mul]
      omega
  have nlt : nf o p low < nf o p (low + p + o + 1) := by
    refine Nat.lt_of_not_le fun h => ?_
    have := (nf_le hp0 _).mpr h
    omega
  have npos : 0 ≤ (nf o p low : Int) * p := Int.mul_nonneg (by omega) (by omega)
  have L1 := listed_eq o p low (low + r) hp0 (small _ (by omega)) (some s2)
  have L2 := listed_eq o p low (low + p + o + 1) hp0 (small _ (by omega)) (some s2)
  have L3 := listed_eq o p 0 (o + nf o p low * p) hp0 (by rw [nf_at hp0]; exact small _ (by omega)) (some s2)
  have L4 := listed_eq o p 0 (low + 1) hp0 (small _ (by omega)) (some s2)
  rw [nf_at hp0, n0, Nat.sub_zero] at L3
  rw [n0, Nat.sub_zero] at L4
  have A : atI (lst o p (nf o p low) (nf o p (low + p + o + 1) - nf o p low)) 0 = some (.int (o + nf o p low * p)) := by
    rw [show nf o p (low + p + o + 1) - nf o p low = (nf o p (low + p + o + 1) - nf o p low - 1) + 1 by omega]
    unfold lst
    rw [List.range'_succ, List.map_cons, atI0]
  have Q1 := least_eq low b (some s2) hb0 Bb'
  have Q2 := least_eq (low + r) b (some s2) hb0 Bb'
  have Q3 := least_eq (o + nf o p low * p) b (some s2) hb0 Bb'
  have Q4 := least_eq (low + t) b (some s3) hb0 Bb'
  have F1 := bbq Bo hp0 Bp hb0 Bb Bl Bh (some s2)
  have F2 := bfq Bo hp0 Bp hb0 Bb Bl (some s2)
  have F3 := nfq Bo hp0 Bp hb0 Bb Bl (some s2)
  have F4 := btq Bo Bp hb0 Bb (some s2) (n := (nf o p low : Int)) (bd60 (by omega))
  have F5 := naq Bo hp0 Bp hb0 Bb Bl (some s2)
  have F6 := bbq Bo hp0 Bp hb0 Bb Bl Bm (some s3)
  have F7 := bbq Bo hp0 Bp hb0 Bb Bm Bh (some s3)
  have c1 : (nf o p (low + r) : Int) - nf o p low = ((nf o p (low + r) - nf o p low : Nat) : Int) := by
    have := nf_mono (o := o) hp0 (show low ≤ low + r by omega)
    omega
  have c2 : (nf o p (low + t) : Int) - nf o p low + ((nf o p (low + r) : Int) - nf o p (low + t)) = ((nf o p (low + r) - nf o p low : Nat) : Int) := by omega
  have c3 : (if low < o then D.non else .int ((low - o) / p)) = (if (0 : Int) < (nf o p (low + 1) : Int) then .int ((nf o p (low + 1) : Int) - 1) else .non) := by
    by_cases h : low < o
    · rw [if_pos h, nf_low hp0 (by omega)]; rfl
    · have h1 := Int.ediv_mul_le (low - o) (show p ≠ 0 by omega)
      have h2 := Int.lt_ediv_add_one_mul_self (low - o) hp0
      have h3 : 0 ≤ (low - o) / p := Int.ediv_nonneg (by omega) (by omega)
      have h4 : nf o p (low + 1) = ((low - o) / p).toNat + 1 := by
        refine Nat.le_antisymm ((nf_le hp0 _).mp ?_) (Nat.lt_of_not_le fun h => ?_)
        · rw [show ((((low - o) / p).toNat + 1 : Nat) : Int) = (low - o) / p + 1 by omega]; omega
        · have := (nf_le hp0 _).mpr h
          rw [show ((((low - o) / p).toNat : Nat) : Int) = (low - o) / p by omega] at this
          omega
      rw [if_neg h, h4, if_pos (by omega)]
      congr 1
      omega
  have n1 := ne_fr
  have n2 : gNe .non .non = some (.bl false) := gNe_self rfl
  have n3 := @lst_len
  have n4 := @Nat.sub_zero
  refine ⟨some (.val (.int low)), some (.val (.int (low + r))), some (.val (.lst (lst o p (nf o p low) (nf o p (low + r) - nf o p low)))), some (.val (fr (Rat.divInt low b))), some (.val (fr (Rat.divInt (low + r) b))),
    some (.val (.lst (lst o p (nf o p low) (nf o p (low + p + o + 1) - nf o p low)))), some (.val (.int (nf o p low))), some (.val (.int (nf o p (low + 1)))), some (.val (.int (low + t))), some (.val (fr (Rat.divInt (low + t) b))), s3, ?_⟩
  clear Bo Bp Bb Bb' Bl Bh Bm small nl first nlt npos hb0 hb ho0 ho hp0 hp l0 l1 r0 r1 t0 t1 n0
  rw [b1_law]
  by_cases h15 : (0 : Int) < (nf o p (low + 1) : Int)
  · rw [if_pos h15] at c3
    walk_at "evs"
  · rw [if_neg h15] at c3
    walk_at "evs"
end G
namespace G
open PySem PySem.Spec PyProof.Rows L2 PL Q
local macro_rules | `(tactic| walk_at "ev") => `(tactic| simp only [ev_run, stEnv, List.map, List.length, List.replicate, List.cons_append, List.nil_append, Nat.reduceSub, Nat.reduceAdd, Nat.sub_self, Nat.zero_add,
  xb_ok, xb_er, xb_none, xbS_ok, xbS_er, xbS_none, ret_some, ev_var, rdV_val, rdV_ml, env_mk, src_mk, ev_c, set_mk, List.set, List.getElem?_cons_zero, List.getElem?_cons_succ,
  ev_bin, ev_bin2, ev_bin1, ev_un, ev_un1, ev_blt, ev_blt1, ev_tup, ev_lst, ev_ix, ev_asB, ev_asB1, ev_and, ev_and_t, ev_and_f, ev_or, ev_or_t, ev_or_f, ev_not, ev_not1, ev_if, ev_if_t, ev_if_f, ev_toB, ev_toB1,
  ev_andV, ev_andV_t, ev_andV_f, ev_orV, ev_orV_t, ev_orV_f, ev_notV, ev_notV1, ev_nil, ev_cons, ev_cons1, ev_cons2,
  ev_seq, sq_nx, sq_rt, sq_er, sq_bk, sq_ct, ev_next, ev_break, ev_cont, ev_drop, ev_drop1, ev_ret, ev_ret1, ev_retN, ev_ifS, ev_ifS_t, ev_ifS_f, nxO_some, ev_asg, ev_asg1, ev_gN, ev_gTp, ev_gsNil, ev_gsCons, obS_some,
  lw_nx, lw_ct, lw_bk, lw_rt, lw_er, lp_nx, lp_ct, lp_bk, lp_rt, lp_er, ev_wh_t, ev_wh_f, cmpIf_ok,
  ev_new, ev_new1, ev_par, ev_par1, ev_parNew, ev_parNew1, ev_parNew2, ev_for, ev_for1, ev_forNil,
  ev_call, ev_call1, cR_ok, cR_er, end_rt, end_nx, end_er,
  ev_app, onMl_ml, ev_app1, ev_app2, ev_asL, mlOf_ml, ev_lenM, lenO_some,
  ev_get, ev_get1, ev_put, ev_put1, ev_put2, ev_slen, ev_slen1, ev_spop, ev_spop1, ev_spop2, ev_snew, ev_snew1, ev_scr, ev_scr1, ev_seqOf, ev_seqOf1, ev_tupOf, ev_tupOf1, ev_r1, ev_r11, ev_r2, ev_r21,
  ev_comp, cmpO_some, ev_cmpNil, cmpT_t, cmpT_f, ev_yes, backP_mk, wipeP_mk, wipeE, backE, Option.getD_some, Option.getD_none, onT_some, onG_some,
  gI_int, gAdd_int, gNeg_int, gAbs_int, gMax2_int, gMin2_int, gIntA_int, gIntA_bl, gLen_lst, gLen_tup, gIx_tup, gIx_lst, mkTup_ok, mkLst_ok, atI0, atI1, atI2, atI3, sm0, sm1, sm2, sm3, sm4, sm5, sm6, sm7, sm8, sml0, gEq_int, gNe_int,
  Fld.get, Fld.put, if_true, if_false, ite_true, ite_false, Bool.false_eq_true, decide_true, decide_false, not_true_eq_false, not_false_eq_true, Int.reduceLT, Int.reduceLE, Bool.not_true, Bool.not_false, ite_self, Int.reduceNeg, and_self, and_true, true_and, and_false, false_and, Int.reducePow, Int.reduceToNat])
local macro_rules | `(tactic| walk_at "evs") => `(tactic| simp only [ev_run, stEnv, List.map, List.length, List.replicate, List.cons_append, List.nil_append, Nat.reduceSub, Nat.reduceAdd, Nat.sub_self, Nat.zero_add,
  xb_ok, xb_er, xb_none, xbS_ok, xbS_er, xbS_none, ret_some, ev_var, rdV_val, rdV_ml, env_mk, src_mk, ev_c, set_mk, List.set, List.getElem?_cons_zero, List.getElem?_cons_succ,
  ev_bin, ev_bin2, ev_bin1, ev_un, ev_un1, ev_blt, ev_blt1, ev_tup, ev_lst, ev_ix, ev_asB, ev_asB1, ev_and, ev_and_t, ev_and_f, ev_or, ev_or_t, ev_or_f, ev_not, ev_not1, ev_if, ev_if_t, ev_if_f, ev_toB, ev_toB1,
  ev_andV, ev_andV_t, ev_andV_f, ev_orV, ev_orV_t, ev_orV_f, ev_notV, ev_notV1, ev_nil, ev_cons, ev_cons1, ev_cons2,
  ev_seq, sq_nx, sq_rt, sq_er, sq_bk, sq_ct, ev_next, ev_break, ev_cont, ev_drop, ev_drop1, ev_ret, ev_ret1, ev_retN, ev_ifS, ev_ifS_t, ev_ifS_f, nxO_some, ev_asg, ev_asg1, ev_gN, ev_gTp, ev_gsNil, ev_gsCons, obS_some,
  lw_nx, lw_ct, lw_bk, lw_rt, lw_er, lp_nx, lp_ct, lp_bk, lp_rt, lp_er, ev_wh_t, ev_wh_f, cmpIf_ok,
  ev_new, ev_new1, ev_par, ev_par1, ev_parNew, ev_parNew1, ev_parNew2, ev_for, ev_for1, ev_forNil,
  ev_call, ev_call1, cR_ok, cR_er, end_rt, end_nx, end_er,
  ev_app, onMl_ml, ev_app1, ev_app2, ev_asL, mlOf_ml, ev_lenM, lenO_some,
  ev_get, ev_get1, ev_put, ev_put1, ev_put2, ev_slen, ev_slen1, ev_spop, ev_spop1, ev_spop2, ev_snew, ev_snew1, ev_scr, ev_scr1, ev_seqOf, ev_seqOf1, ev_tupOf, ev_tupOf1, ev_r1, ev_r11, ev_r2, ev_r21,
  ev_comp, cmpO_some, ev_cmpNil, cmpT_t, cmpT_f, ev_yes, backP_mk, wipeP_mk, wipeE, backE, Option.getD_some, Option.getD_none, onT_some, onG_some,
  gI_int, gAdd_int, gNeg_int, gAbs_int, gMax2_int, gMin2_int, gIntA_int, gIntA_bl, gLen_lst, gLen_tup, gIx_tup, gIx_lst, mkTup_ok, mkLst_ok, atI0, atI1, atI2, atI3, sm0, sm1, sm2, sm3, sm4, sm5, sm6, sm7, sm8, sml0, gEq_int, gNe_int,
  Fld.get, Fld.put, if_true, if_false, ite_true, ite_false, Bool.false_eq_true, decide_true, decide_false, not_true_eq_false, not_false_eq_true, Int.reduceLT, Int.reduceLE, Bool.not_true, Bool.not_false, ite_self, Int.reduceNeg, and_self, and_true, true_and, and_false, false_and, Int.reducePow, Int.reduceToNat,
  gIc_int, gMulA_int, *])
theorem q_sub (a c b : Int) : Rat.divInt a b - Rat.divInt c b = Rat.divInt (a - c) b := by
  rw [Rat.divInt_eq_div, Rat.divInt_eq_div, Rat.divInt_eq_div, Rat.intCast_sub]
  grind
theorem nf_far {o p m : Int} (hp : 0 < p) (h : o ≤ m) (n : Nat) : nf o p (m + n * p) = nf o p m + n := by
  unfold nf
  have h1 : (o - m) / p ≤ 0 := by
    have h2 := Int.ediv_mul_le (o - m) (show p ≠ 0 by omega)
    refine Int.not_lt.mp fun h3 => ?_
    have : 1 * p ≤ (o - m) / p * p := Int.mul_le_mul_of_nonneg_right (by omega) (by omega)
    omega
  rw [show o - (m + n * p) = (o - m) + (-(n : Int)) * p by rw [Int.neg_mul]; omega, Int.add_mul_ediv_right _ _ (show p ≠ 0 by omega)]
  omega
theorem far_ok {b o p low : Int} (hb0 : 0 < b) (hb : b ≤ 12) (ho0 : 0 ≤ o) (ho : o < 40) (hp0 : 0 < p) (hp : p ≤ 30) (hl : 40 ≤ low) (Bl : Bd 968 low.natAbs) (sc : D) (x7 x9 x10 x11 x12 x13 x14 x15 x16 x17 x18 x19 x20 x21 x22 x23 : Option Sl) (s : Src) :
    ∃ y11 y12 y19 y20 y21 y22 s', b2_law ⟨[some (.val sc), some (.val .src), some (.val (.int b)), some (.val (.int o)), some (.val (.int p)), some (.val (fr (Rat.divInt o b))), some (.val (fr (Rat.divInt p b))), x7,
        some (.val (.int low)), x9, x10, x11, x12, x13, x14, x15, x16, x17, x18, x19, x20, x21, x22, x23], some s⟩
      = some (.nx ⟨[some (.val sc), some (.val .src), some (.val (.int b)), some (.val (.int o)), some (.val (.int p)), some (.val (fr (Rat.divInt o b))), some (.val (fr (Rat.divInt p b))), x7,
        some (.val (.int low)), x9, x10, y11, y12, x13, x14, x15, x16, x17, x18, y19, y20, y21, y22, x23], some s'⟩) := by
  obtain ⟨d, s1, e1, hd⟩ := of_eq s [.int 1, .int 7, .int 100000000000000000000] (by decide) (by decide)
  have hd' : ∃ n : Nat, d = .int n ∧ n ≤ 100000000000000000000 := by
    simp only [List.mem_cons, List.not_mem_nil, or_false] at hd
    rcases hd with h | h | h
    · exact ⟨1, h, by decide⟩
    · exact ⟨7, h, by decide⟩
    · exact ⟨100000000000000000000, h, by decide⟩
  obtain ⟨n, rfl, hn⟩ := hd'
  clear hd
  have Bo : Bd 970 o.natAbs := bd60 (by omega)
  have Bp : Bd 40 p.natAbs := bd60 (by omega)
  have Bb : Bd 40 b.natAbs := bd60 (by omega)
  have Bb' : Bd 8500 b.natAbs := bd60 (by omega)
  have Bp' : Bd 8500 p.natAbs := bd60 (by omega)
  have Bl' : Bd 970 low.natAbs := Bl.mono (by decide)
  have Bn : Bd 80 ((n : Nat) : Int).natAbs := by
    rw [Int.natAbs_natCast]
    exact Bd.of (Nat.lt_of_le_of_lt hn (by decide))
  have BL : Bd 970 (low + n * p).natAbs := by
    have := (Bl.add ((Bn.mul Bp).mono (by decide : 80 + 40 ≤ 968)))
    exact this.mono (by decide)
  have at0 : 0 ≤ (low - o) / p := Int.ediv_nonneg (by omega) (by omega)
  have Bat : Bd 969 ((low - o) / p).natAbs := (Bl.sub ((bd60 (i := o) (by omega) (k := 968)))).le (floor_bd _ _ hp0)
  have Bat1 : Bd 970 ((low - o) / p + 1).natAbs := Bat.add (bd_small 969 (by decide))
  have h1 := Int.ediv_mul_le (low - o) (show p ≠ 0 by omega)
  have h2 := Int.lt_ediv_add_one_mul_self (low - o) hp0
  have h3 : ((low - o) / p + 1) * p = (low - o) / p * p + p := by rw [Int.add_mul, Int.one_mul]
  have h4 : 0 ≤ (low - o) / p * p := Int.mul_nonneg at0 (by omega)
  have U := up_eq (low - o) p hp0 Bp' (some s)
  have U' : max 0 (0 - (0 - (low - o)) / p) = (nf o p low : Int) := by
    unfold nf
    rw [show 0 - (low - o) = o - low by omega]
    omega
  rw [U'] at U
  have Q1 := least_eq low b (some s) hb0 Bb'
  have Q2 := least_eq (o + nf o p low * p) b (some s) hb0 Bb'
  have Q3 := least_eq (o + (low - o) / p * p) b (some s) hb0 Bb'
  have Q4 := least_eq ((low - o) % p) b (some s) hb0 Bb'
  have F1 := nfq Bo hp0 Bp hb0 Bb Bl' (some s)
  have F2 := bfq Bo hp0 Bp hb0 Bb Bl' (some s)
  have F3 := naq Bo hp0 Bp hb0 Bb Bl' (some s)
  rw [if_neg (by omega)] at F3
  have F4 := btq Bo Bp hb0 Bb (some s) (Bat.mono (by decide : 969 ≤ 1900))
  have F5 := btq Bo Bp hb0 Bb (some s) (Bat1.mono (by decide : 970 ≤ 1900))
  have F6 := quotient_less_eq (some s) (rb hb0 Bb Bl' (n := 4000)) (rb hb0 Bb Bo (n := 4000))
  have F7 := often_in_eq (some s) ((rb hb0 Bb Bl' (n := 970)).sub (rb hb0 Bb Bo (n := 970)) |>.mono (by decide : 970 + 970 + 1 ≤ 4000)) (rb hb0 Bb (Bp.mono (by decide : 40 ≤ 970)) (n := 4000)) (q_pos hp0 hb0)
  have F8 := left_of_eq (some s) (((rb hb0 Bb (t := low - o) ((Bl.sub (bd60 (i := o) (by omega) (k := 968))).mono (by decide)) (n := 970))).mono (by decide : 970 ≤ 1900)) ((Rb.q hb0 Bp Bb).mono (by decide : 40 ≤ 900)) (q_pos hp0 hb0)
  rw [q_sub] at F6
  rw [q_div hb0 hp0, floor_div _ _ hp0, q_sub] at F7
  rw [← q_sub, q_div hb0 hp0, floor_div _ _ hp0, q_mul, q_sub, q_sub, show low - o - (low - o) / p * p = (low - o) % p by rw [Int.emod_def, Int.mul_comm p]] at F8
  have I1 := is_below_eq (some s) (rb hb0 Bb Bl' (n := 4000)) (rb hb0 Bb (t := o + (low - o) / p * p) (Bl.le (by omega) |>.mono (by decide)) (n := 4000))
  have I2 := is_below_eq (some s) (rb hb0 Bb Bl' (n := 4000)) (rb hb0 Bb (t := o + ((low - o) / p + 1) * p) (Bd.mono (Bd.le (Bd.add Bl (bd60 (i := p) (by omega) (k := 968))) (by omega)) (by decide)) (n := 4000))
  simp only [q_lt hb0] at I1
  rw [decide_eq_false (by omega)] at I1
  simp only [q_lt hb0] at I2
  rw [decide_eq_true (by omega)] at I2
  have P1 := quotient_product_eq (some s1) ((Rb.q hb0 Bp Bb).mono (by decide : 40 ≤ 4000)) ((Rb.ofInt (i := (n : Int)) Bn (by decide)).mono (by decide : 80 ≤ 4000))
  rw [Rat.mul_comm, q_mul] at P1
  have P2 := quotient_sum_eq (some s1) (rb hb0 Bb Bl' (n := 4000)) (rb hb0 Bb (t := (n : Int) * p) ((Bn.mul Bp).mono (by decide)) (n := 4000))
  rw [q_add] at P2
  have G1 := bbq Bo hp0 Bp hb0 Bb Bl' BL (some s1)
  have G2 := bbq Bo hp0 Bp hb0 Bb (m := 0) (bd60 (by decide)) Bl' (some s1)
  rw [nf_far hp0 (by omega)] at G1
  rw [nf_low hp0 (show 0 ≤ o from ho0), q_zero] at G2
  have T1 := (fr_int (n : Int)).symm
  have T2 : D.tup [.int 0, .int 1] = fr 0 := (fr_int 0).symm
  have c1 : ((nf o p low + n : Nat) : Int) - (nf o p low : Int) = (n : Int) := by omega
  have c2 : (nf o p low : Int) - ((0 : Nat) : Int) = (nf o p low : Int) := by omega
  rw [c1] at G1
  rw [c2] at G2
  have m1 : ∀ x : Int, mulOk x p := fun x => mulOk_r (by omega)
  have m2 : divOk (low - o) p := divOk_s hp0 Bp'
  have m3 : powOk 10 20 := ⟨by decide, by decide, by decide, by decide⟩
  have n1 := ne_fr
  refine ⟨some (.val (fr (Rat.divInt low b))), some (.val (fr (Rat.divInt (low + n * p) b))), some (.val (.int (nf o p low))), some (.val (.int ((low - o) / p))), some (.val (fr (Rat.divInt (low - o) b))), some (.val (.int n)), s1, ?_⟩
  clear h3 h4 Bo Bp Bb Bb' Bp' Bl' Bl Bn BL at0 Bat Bat1 h1 h2 U' c1 c2 hb0 hb ho0 ho hp hl hn
  rw [b2_law]
  walk_at "evs"
end G
namespace G
open PySem PySem.Spec PyProof.Rows L2 PL Q
local macro_rules | `(tactic| walk_at "ev") => `(tactic| simp only [ev_run, stEnv, List.map, List.length, List.replicate, List.cons_append, List.nil_append, Nat.reduceSub, Nat.reduceAdd, Nat.sub_self, Nat.zero_add,
  xb_ok, xb_er, xb_none, xbS_ok, xbS_er, xbS_none, ret_some, ev_var, rdV_val, rdV_ml, env_mk, src_mk, ev_c, set_mk, List.set, List.getElem?_cons_zero, List.getElem?_cons_succ,
  ev_bin, ev_bin2, ev_bin1, ev_un, ev_un1, ev_blt, ev_blt1, ev_tup, ev_lst, ev_ix, ev_asB, ev_asB1, ev_and, ev_and_t, ev_and_f, ev_or, ev_or_t, ev_or_f, ev_not, ev_not1, ev_if, ev_if_t, ev_if_f, ev_toB, ev_toB1,
  ev_andV, ev_andV_t, ev_andV_f, ev_orV, ev_orV_t, ev_orV_f, ev_notV, ev_notV1, ev_nil, ev_cons, ev_cons1, ev_cons2,
  ev_seq, sq_nx, sq_rt, sq_er, sq_bk, sq_ct, ev_next, ev_break, ev_cont, ev_drop, ev_drop1, ev_ret, ev_ret1, ev_retN, ev_ifS, ev_ifS_t, ev_ifS_f, nxO_some, ev_asg, ev_asg1, ev_gN, ev_gTp, ev_gsNil, ev_gsCons, obS_some,
  lw_nx, lw_ct, lw_bk, lw_rt, lw_er, lp_nx, lp_ct, lp_bk, lp_rt, lp_er, ev_wh_t, ev_wh_f, cmpIf_ok,
  ev_new, ev_new1, ev_par, ev_par1, ev_parNew, ev_parNew1, ev_parNew2, ev_for, ev_for1, ev_forNil,
  ev_call, ev_call1, cR_ok, cR_er, end_rt, end_nx, end_er,
  ev_app, onMl_ml, ev_app1, ev_app2, ev_asL, mlOf_ml, ev_lenM, lenO_some,
  ev_get, ev_get1, ev_put, ev_put1, ev_put2, ev_slen, ev_slen1, ev_spop, ev_spop1, ev_spop2, ev_snew, ev_snew1, ev_scr, ev_scr1, ev_seqOf, ev_seqOf1, ev_tupOf, ev_tupOf1, ev_r1, ev_r11, ev_r2, ev_r21,
  ev_comp, cmpO_some, ev_cmpNil, cmpT_t, cmpT_f, ev_yes, backP_mk, wipeP_mk, wipeE, backE, Option.getD_some, Option.getD_none, onT_some, onG_some,
  gI_int, gAdd_int, gNeg_int, gAbs_int, gMax2_int, gMin2_int, gIntA_int, gIntA_bl, gLen_lst, gLen_tup, gIx_tup, gIx_lst, mkTup_ok, mkLst_ok, atI0, atI1, atI2, atI3, sm0, sm1, sm2, sm3, sm4, sm5, sm6, sm7, sm8, sml0, gEq_int, gNe_int,
  Fld.get, Fld.put, if_true, if_false, ite_true, ite_false, Bool.false_eq_true, decide_true, decide_false, not_true_eq_false, not_false_eq_true, Int.reduceLT, Int.reduceLE, Bool.not_true, Bool.not_false, ite_self, Int.reduceNeg, and_self, and_true, true_and, and_false, false_and, Int.reducePow, Int.reduceToNat])
local macro_rules | `(tactic| walk_at "evs") => `(tactic| simp only [ev_run, stEnv, List.map, List.length, List.replicate, List.cons_append, List.nil_append, Nat.reduceSub, Nat.reduceAdd, Nat.sub_self, Nat.zero_add,
  xb_ok, xb_er, xb_none, xbS_ok, xbS_er, xbS_none, ret_some, ev_var, rdV_val, rdV_ml, env_mk, src_mk, ev_c, set_mk, List.set, List.getElem?_cons_zero, List.getElem?_cons_succ,
  ev_bin, ev_bin2, ev_bin1, ev_un, ev_un1, ev_blt, ev_blt1, ev_tup, ev_lst, ev_ix, ev_asB, ev_asB1, ev_and, ev_and_t, ev_and_f, ev_or, ev_or_t, ev_or_f, ev_not, ev_not1, ev_if, ev_if_t, ev_if_f, ev_toB, ev_toB1,
  ev_andV, ev_andV_t, ev_andV_f, ev_orV, ev_orV_t, ev_orV_f, ev_notV, ev_notV1, ev_nil, ev_cons, ev_cons1, ev_cons2,
  ev_seq, sq_nx, sq_rt, sq_er, sq_bk, sq_ct, ev_next, ev_break, ev_cont, ev_drop, ev_drop1, ev_ret, ev_ret1, ev_retN, ev_ifS, ev_ifS_t, ev_ifS_f, nxO_some, ev_asg, ev_asg1, ev_gN, ev_gTp, ev_gsNil, ev_gsCons, obS_some,
  lw_nx, lw_ct, lw_bk, lw_rt, lw_er, lp_nx, lp_ct, lp_bk, lp_rt, lp_er, ev_wh_t, ev_wh_f, cmpIf_ok,
  ev_new, ev_new1, ev_par, ev_par1, ev_parNew, ev_parNew1, ev_parNew2, ev_for, ev_for1, ev_forNil,
  ev_call, ev_call1, cR_ok, cR_er, end_rt, end_nx, end_er,
  ev_app, onMl_ml, ev_app1, ev_app2, ev_asL, mlOf_ml, ev_lenM, lenO_some,
  ev_get, ev_get1, ev_put, ev_put1, ev_put2, ev_slen, ev_slen1, ev_spop, ev_spop1, ev_spop2, ev_snew, ev_snew1, ev_scr, ev_scr1, ev_seqOf, ev_seqOf1, ev_tupOf, ev_tupOf1, ev_r1, ev_r11, ev_r2, ev_r21,
  ev_comp, cmpO_some, ev_cmpNil, cmpT_t, cmpT_f, ev_yes, backP_mk, wipeP_mk, wipeE, backE, Option.getD_some, Option.getD_none, onT_some, onG_some,
  gI_int, gAdd_int, gNeg_int, gAbs_int, gMax2_int, gMin2_int, gIntA_int, gIntA_bl, gLen_lst, gLen_tup, gIx_tup, gIx_lst, mkTup_ok, mkLst_ok, atI0, atI1, atI2, atI3, sm0, sm1, sm2, sm3, sm4, sm5, sm6, sm7, sm8, sml0, gEq_int, gNe_int,
  Fld.get, Fld.put, if_true, if_false, ite_true, ite_false, Bool.false_eq_true, decide_true, decide_false, not_true_eq_false, not_false_eq_true, Int.reduceLT, Int.reduceLE, Bool.not_true, Bool.not_false, ite_self, Int.reduceNeg, and_self, and_true, true_and, and_false, false_and, Int.reducePow, Int.reduceToNat,
  gIc_int, gMulA_int, *])
theorem nf_later {o p m : Int} (hp : 0 < p) (h : o + 3 * p ≤ m) : (nf (o + 3 * p) p m : Int) = nf o p m - 3 := by
  unfold nf
  have e : (o + 3 * p - m) / p = (o - m) / p + 3 := by
    rw [show o + 3 * p - m = (o - m) + 3 * p by omega, Int.add_mul_ediv_right _ _ (show p ≠ 0 by omega)]
  have h1 : (o + 3 * p - m) / p ≤ 0 := by
    have h2 := Int.ediv_mul_le (o + 3 * p - m) (show p ≠ 0 by omega)
    refine Int.not_lt.mp fun h3 => ?_
    have : 1 * p ≤ (o + 3 * p - m) / p * p := Int.mul_le_mul_of_nonneg_right (by omega) (by omega)
    omega
  omega
theorem tens (k : Int) (h : k = 12 ∨ k = 60 ∨ k = 288) : ∃ z z' N, gMulA (.str "0") (.int k) = some (.str z) ∧ gAdd (.str "1") (.str z) = some (.str z') ∧ gIntA [.str z'] = some (.int N) ∧ 1000 ≤ N ∧ Bd 960 N.natAbs := by
  rcases h with h | h | h <;> subst h
  · exact ⟨repS "0" 12, ("1" : Str) ++ repS "0" 12, (10 : Int) ^ 12, by kernel_rfl, by kernel_rfl, by kernel_rfl, by decide, Bd.of (by decide +kernel)⟩
  · exact ⟨repS "0" 60, ("1" : Str) ++ repS "0" 60, (10 : Int) ^ 60, by kernel_rfl, by kernel_rfl, by kernel_rfl, by decide, Bd.of (by decide +kernel)⟩
  · exact ⟨repS "0" 288, ("1" : Str) ++ repS "0" 288, (10 : Int) ^ 288, by kernel_rfl, by kernel_rfl, by kernel_rfl, by decide +kernel, Bd.of (by decide +kernel)⟩
theorem laps {b o p : Int} (hb0 : 0 < b) (hb : b ≤ 12) (ho0 : 0 ≤ o) (ho : o < 40) (hp0 : 0 < p) (hp : p ≤ 30) (sc : D) : ∀ (ds : List D) (x7 x8 x9 x10 x11 x12 x13 x14 x15 x16 x17 : Option Sl) (s : Src),
    ∃ y7 y8 y9 y10 y11 y12 y13 y14 y15 y16 y17 s', xForL (gN 7) b1_law ds ⟨[some (.val sc), some (.val .src), some (.val (.int b)), some (.val (.int o)), some (.val (.int p)), some (.val (fr (Rat.divInt o b))), some (.val (fr (Rat.divInt p b))), x7,
        x8, x9, x10, x11, x12, x13, x14, x15, x16, x17, none, none, none, none, none, none], some s⟩
      = some (.nx ⟨[some (.val sc), some (.val .src), some (.val (.int b)), some (.val (.int o)), some (.val (.int p)), some (.val (fr (Rat.divInt o b))), some (.val (fr (Rat.divInt p b))), y7,
        y8, y9, y10, y11, y12, y13, y14, y15, y16, y17, none, none, none, none, none, none], some s'⟩)
  | [], x7, x8, x9, x10, x11, x12, x13, x14, x15, x16, x17, s => ⟨x7, x8, x9, x10, x11, x12, x13, x14, x15, x16, x17, s, rfl⟩
  | d :: ds, x7, x8, x9, x10, x11, x12, x13, x14, x15, x16, x17, s => by
    obtain ⟨y8, y9, y10, y11, y12, y13, y14, y15, y16, y17, s1, e⟩ := lap_ok hb0 hb ho0 ho hp0 hp sc d x8 x9 x10 x11 x12 x13 x14 x15 x16 x17 s
    obtain ⟨z7, z8, z9, z10, z11, z12, z13, z14, z15, z16, z17, s2, e2⟩ := laps hb0 hb ho0 ho hp0 hp sc ds (some (.val d)) y8 y9 y10 y11 y12 y13 y14 y15 y16 y17 s1
    refine ⟨z7, z8, z9, z10, z11, z12, z13, z14, z15, z16, z17, s2, ?_⟩
    rw [ev_forCons, ev_gN, onG_some, set_mk]
    simp only [List.set]
    rw [e, lp_nx, e2]
theorem law_math (ns : List Int) (hns : ns.length ≤ 63) : ∃ s', F_law [.scr ns] none = some (.ok (.bl true) s') := by
  obtain ⟨s0, e0⟩ := src_eq ns hns
  obtain ⟨q0, s1, e1, rb0, rb1⟩ := pick_n s0 12 (bd60 (by decide)) (by decide)
  obtain ⟨o, s2, e2, ho0, ho⟩ := pick_n s1 40 (bd60 (by decide)) (by decide)
  obtain ⟨q1, s3, e3, rp0, rp1⟩ := pick_n s2 30 (bd60 (by decide)) (by decide)
  obtain ⟨b, hb⟩ : ∃ b, b = 1 + q0 := ⟨_, rfl⟩
  obtain ⟨p, hp⟩ : ∃ p, p = 1 + q1 := ⟨_, rfl⟩
  have hb0 : 0 < b := by omega
  have hb1 : b ≤ 12 := by omega
  have hp0 : 0 < p := by omega
  have hp1 : p ≤ 30 := by omega
  have Bo : Bd 970 o.natAbs := bd60 (by omega)
  have Bp : Bd 40 p.natAbs := bd60 (by omega)
  have Bb : Bd 40 b.natAbs := bd60 (by omega)
  have Bb' : Bd 8500 b.natAbs := bd60 (by omega)
  have hp' := hp.symm
  have hb' := hb.symm
  obtain ⟨y7, y8, y9, y10, y11, y12, y13, y14, y15, y16, y17, s4, e4⟩ := laps hb0 hb1 ho0 ho hp0 hp1 (.scr ns) (rangeL 0 6) none none none none none none none none none none none s3
  obtain ⟨d, s5, e5, hd⟩ := of_eq s4 [.int 12, .int 60, .int 288] (by decide) (by decide)
  have hd' : ∃ k : Int, d = .int k ∧ (k = 12 ∨ k = 60 ∨ k = 288) := by
    simp only [List.mem_cons, List.not_mem_nil, or_false] at hd
    rcases hd with h | h | h
    · exact ⟨12, h, by omega⟩
    · exact ⟨60, h, by omega⟩
    · exact ⟨288, h, by omega⟩
  obtain ⟨k, rfl, hk⟩ := hd'
  obtain ⟨z, z', N, t1, t2, t3, N0, BN⟩ := tens k hk
  obtain ⟨r6, s6, e6, r60, r61⟩ := pick_n s5 1000000000 (bd60 (by decide)) (by decide)
  obtain ⟨r7, s7, e7, r70, r71⟩ := pick_n s6 1000000000000 (bd60 (by decide)) (by decide)
  obtain ⟨F, hF⟩ : ∃ F, F = N + r6 := ⟨_, rfl⟩
  have BF : Bd 961 F.natAbs := by rw [hF]; exact BN.add (bd60 (by omega))
  have BF2 : Bd 962 (F + r7).natAbs := BF.add (bd60 (by omega))
  have BF5 : Bd 970 (F + 500).natAbs := (BF.add (bd60 (by decide))).mono (by decide)
  obtain ⟨a11, a12, a19, a20, a21, a22, s8, e8⟩ := far_ok hb0 hb1 ho0 ho hp0 hp1 (low := F) (by omega) (BF.mono (by decide)) (.scr ns) y7 y9 y10 y11 y12 y13 y14 y15 y16 y17 (some (.val (.int F))) none none none none none s7
  obtain ⟨c11, c12, c19, c20, c21, c22, s9, e9⟩ := far_ok hb0 hb1 ho0 ho hp0 hp1 (low := F + r7) (by omega) (BF2.mono (by decide)) (.scr ns) y7 y9 y10 a11 a12 y13 y14 y15 y16 y17 (some (.val (.int F))) a19 a20 a21 a22 none s8
  have Q1 := least_eq o b (some s3) hb0 Bb'
  have Q2 := least_eq p b (some s3) hb0 Bb'
  have T1 := quotient_told_eq o b (some s3) (by omega) Bb'
  have T2 := quotient_told_eq (3 * p) (3 * b) (some s3) (by omega) (bd60 (by omega))
  rw [Rat.divInt_mul_left (by decide)] at T2
  have P1 := quotient_product_eq (some s9) ((Rb.q hb0 Bp Bb).mono (by decide : 40 ≤ 4000)) ((Rb.ofInt (i := 3) (bd60 (k := 80) (by decide)) (by decide)).mono (by decide : 80 ≤ 4000))
  rw [Rat.mul_comm, q_mul] at P1
  have P2 := quotient_sum_eq (some s9) (rb hb0 Bb Bo (n := 4000)) (rb hb0 Bb (t := 3 * p) (bd60 (by omega)) (n := 4000))
  rw [q_add] at P2
  have BF' : Bd 970 F.natAbs := BF.mono (by decide)
  have Q3 := least_eq F b (some s9) hb0 Bb'
  have Q4 := least_eq (F + 500) b (some s9) hb0 Bb'
  have G1 := bbq (o := o + 3 * p) (bd60 (by omega)) hp0 Bp hb0 Bb BF' BF5 (some s9)
  have G2 := bbq Bo hp0 Bp hb0 Bb BF' BF5 (some s9)
  rw [nf_later hp0 (by omega), nf_later hp0 (by omega), show (nf o p (F + 500) : Int) - 3 - ((nf o p F : Int) - 3) = nf o p (F + 500) - nf o p F by omega] at G1
  have H1 := naq Bo hp0 Bp hb0 Bb Bo (some s9)
  rw [if_neg (by omega), Int.sub_self, Int.zero_ediv] at H1
  have H2 := nfq Bo hp0 Bp hb0 Bb (m := 0) (bd60 (by decide)) (some s9)
  rw [nf_low hp0 ho0, q_zero, show ((0 : Nat) : Int) = 0 from rfl] at H2
  have H3 := bbq Bo hp0 Bp hb0 Bb Bo Bo (some s9)
  rw [Int.sub_self] at H3
  have T3 : D.tup [.int 3, .int 1] = fr ((3 : Int) : Rat) := (fr_int 3).symm
  have T4 : D.tup [.int 0, .int 1] = fr 0 := (fr_int 0).symm
  have m1 : mulOk 3 p := mulOk_l (by decide)
  have m2 : mulOk 3 b := mulOk_l (by decide)
  have m3 : powOk 10 9 := ⟨by decide, by decide, by decide, by decide⟩
  have m4 : powOk 10 12 := ⟨by decide, by decide, by decide, by decide⟩
  have n1 := ne_fr
  have n2 : ∀ x y : Rat, gNe (.lst [fr x, fr y]) (.lst [fr x, fr y]) = some (.bl false) := fun x y => gNe_self rfl
  have hF' := hF.symm
  have n3 : (3 : Int) * p + o = o + 3 * p := by omega
  have L1 : ∀ (g : FG) (b : FS) (d : D) (ds : List D) (ρ : PS), xForL g b (d :: ds) ρ = lp g b ds (onG (g d ρ) b) := fun _ _ _ _ _ => ev_forCons
  refine ⟨some s9, ?_⟩
  clear Bo Bp Bb Bb' hb hp hb0 hb1 hp0 hp1 ho0 ho rb0 rb1 rp0 rp1 BF BF2 BF5 BF' BN N0 hF hk hd hns r60 r61 r70 r71
  unfold F_law B_law
  walk_at "evs"
end G
open PySem PySem.W PySem.Calls PyProof.Rows
set_option maxRecDepth 100000 in
set_option maxHeartbeats 0 in
theorem PySem.Challenge.cw_beatsnested_k08_begins_counted_far_holds : PySem.Challenge.rw_beatsnested_k08_begins_counted_far.Holds := by
  w_on; o_law
  refine HandSHeadRun.head_any (r := OpenLaw.row PySem.Challenge.rw_beatsnested_k08_begins_counted_far) (q := view (OpenLaw.row PySem.Challenge.rw_beatsnested_k08_begins_counted_far).prog [21]) (H := G.hk) (ob := G.ob) (M := 1720) (loose := G.loose) (d := HandSHeadRun.topDef (OpenLaw.row PySem.Challenge.rw_beatsnested_k08_begins_counted_far).prog 21) (kwd := []) G.ob_eq
    (by kernel_rfl) (fun s => by kernel_rfl) G.run (by kernel_rfl) (by kernel_rfl) (by kernel_rfl) (by rfl) (by first | assumption | decide +kernel) (by decide +kernel) ⟨rfl, rfl, rfl, rfl, rfl, by decide +kernel⟩ ?hw ?hc
  case hw => w_witness2
  case hc =>
    refine PL.walk_X (l := PySem.Challenge.rw_beatsnested_k08_begins_counted_far) (n := 63) (k := 6) (x := "script") rfl (by decide) (by kernel_rfl) ⟨rfl, by decide, by decide⟩ ?F
    intro w mg fa h Y GN hmg0
    obtain ⟨K, KX, c⟩ := Y
    have hmg : mg ("law" : PySem.Str) = some (.ref fa) := by
      have e : (HandSHeadRun.topDef (OpenLaw.row PySem.Challenge.rw_beatsnested_k08_begins_counted_far).prog 21).name = ("law" : PySem.Str) := by kernel_rfl
      rw [← e]
      exact hmg0
    obtain ⟨fd, hb, hF⟩ := G.facts (P := (PySem.Challenge.rw_beatsnested_k08_begins_counted_far).prog) (w := w) KX GN hmg c
    exact ⟨K, fd, PL.spD K 1 G.F_law, KX, hb, PL.law_end (P := PySem.Challenge.rw_beatsnested_k08_begins_counted_far.prog) (w := w) (mg := mg) (base := h) (k := 0) G.law_math, fun base _ _ => hF base⟩
