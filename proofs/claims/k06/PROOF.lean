import PyProof.Rows.All
import Wide.All
import OpenK.AllK
import Wide.FinOn
import HandS.ForMost
import HandS.ForExc
import HandS.Walk
import HandS.AnyAll
import HandS.TupAny
import HandS.TupMul
import HandS.Deep
import HandS.TupLe
import KE.DataMinMax
import HandS.DictComp
import HandS.WordsDict
import HandS.TupLen
import HandS.ExcOwn
import KE.SortData
import PySem.Challenge.RW_quarryline_k06_stations_in_sight
set_option Elab.async false
set_option linter.all false
set_option maxRecDepth 100000
set_option maxHeartbeats 8000000
namespace L2.Fl
open PySem PySem.Spec PyProof.Rows

/-! ### plain data -/
inductive D where
  | non | bl (b : Bool) | int (i : Int) | str (s : Str) | tok (n : Nat) | tup (xs : List D) | lst (xs : List D) | dct (kvs : List (D × D))
deriving Inhabited

abbrev W3 := Int × Int × Int
inductive Slot where
  | no | val (d : D) | own (d : D)
deriving Inhabited
abbrev Fr := List Slot
inductive Out (α : Type) where
  | ok (a : α) (ρ : Fr) (ω : W3) | exc (c : Nat) (ω : W3) | bad
abbrev EM (α : Type) := Fr → W3 → Out α
inductive SO where
  | nx (ρ : Fr) (ω : W3) | rt (d : D) (ω : W3) | bk (ρ : Fr) (ω : W3) | ct (ρ : Fr) (ω : W3) | exc (c : Nat) (ω : W3) | bad
abbrev SM := Fr → W3 → SO
inductive FO where
  | ok (d : D) (ω : W3) | exc (c : Nat) (ω : W3) | bad
abbrev FM := List D → W3 → FO

/-! ### the ground -/
structure Gd where
  K : PySem.W.Frag
  pd : Option Addr
  tk : Nat → Option V
  T : List Addr
def Fix (o : HO) : Prop := ∀ ps, o ≠ .tbl ps
structure Ext (g : Gd) (H H' : Hp) : Prop where
  keep : ∀ p o, H p = some o → g.pd ≠ some p → Fix o → H' p = some o
  dom : ∀ p, H' p = none → H p = none
theorem Ext.refl {g : Gd} {H : Hp} : Ext g H H := ⟨fun _ _ h _ _ => h, fun _ h => h⟩
theorem Ext.trans {g : Gd} {H H1 H2 : Hp} (a : Ext g H H1) (b : Ext g H1 H2) : Ext g H H2 := ⟨fun p o h n f => b.keep p o (a.keep p o h n f) n f, fun p h => a.dom p (b.dom p h)⟩
theorem fix_lst {xs : List V} : Fix (.lst xs) := fun _ h => by cases h
theorem fix_tup {xs : List V} : Fix (.tup xs) := fun _ h => by cases h
theorem fix_dK {xs : List (Key × V)} : Fix (.dK xs) := fun _ h => by cases h
theorem fix_dT {xs : List (List Key × V)} : Fix (.dT xs) := fun _ h => by cases h

def kD : Key → D
  | .inl i => .int i
  | .inr s => .str s

/-! ### data against values -/
mutual
inductive RD (tk : Nat → Option V) (Z : Addr → Prop) (H : Hp) : D → V → Prop
  | non : RD tk Z H .non .non
  | bl (b : Bool) : RD tk Z H (.bl b) (.bl b)
  | int (i : Int) : RD tk Z H (.int i) (.int i)
  | str (s : Str) : RD tk Z H (.str s) (.str s)
  | tok {n : Nat} {v : V} : tk n = some v → RD tk Z H (.tok n) v
  | tup {p : Addr} {ds : List D} {vs : List V} : Z p → H p = some (.tup vs) → RDs tk Z H ds vs → RD tk Z H (.tup ds) (.ref p)
  | obj {p : Addr} {d : D} : Z p → RO tk Z H d p → RD tk Z H d (.ref p)
inductive RO (tk : Nat → Option V) (Z : Addr → Prop) (H : Hp) : D → Addr → Prop
  | lst {p : Addr} {ds : List D} {vs : List V} : H p = some (.lst vs) → RDs tk Z H ds vs → RO tk Z H (.lst ds) p
  | dK {p : Addr} {ks : List (D × D)} {kvs : List (Key × V)} : H p = some (.dK kvs) → RK tk Z H ks kvs → RO tk Z H (.dct ks) p
  | dT {p : Addr} {ks : List (D × D)} {kvs : List (List Key × V)} : H p = some (.dT kvs) → RT tk Z H ks kvs → RO tk Z H (.dct ks) p
inductive RDs (tk : Nat → Option V) (Z : Addr → Prop) (H : Hp) : List D → List V → Prop
  | nil : RDs tk Z H [] []
  | cons {d : D} {v : V} {ds : List D} {vs : List V} : RD tk Z H d v → RDs tk Z H ds vs → RDs tk Z H (d :: ds) (v :: vs)
inductive RK (tk : Nat → Option V) (Z : Addr → Prop) (H : Hp) : List (D × D) → List (Key × V) → Prop
  | nil : RK tk Z H [] []
  | cons {k : Key} {d : D} {v : V} {ds : List (D × D)} {vs : List (Key × V)} : RD tk Z H d v → RK tk Z H ds vs → RK tk Z H ((kD k, d) :: ds) ((k, v) :: vs)
inductive RT (tk : Nat → Option V) (Z : Addr → Prop) (H : Hp) : List (D × D) → List (List Key × V) → Prop
  | nil : RT tk Z H [] []
  | cons {k : List Key} {d : D} {v : V} {ds : List (D × D)} {vs : List (List Key × V)} : RD tk Z H d v → RT tk Z H ds vs → RT tk Z H ((.tup (k.map kD), d) :: ds) ((k, v) :: vs)
end

section
variable {tk : Nat → Option V} {Z Z' : Addr → Prop} {H H' : Hp}
mutual
theorem RD.mono (hz : ∀ p, Z p → Z' p) (hh : ∀ p o, Z p → H p = some o → H' p = some o) : ∀ {d : D} {v : V}, RD tk Z H d v → RD tk Z' H' d v
  | _, _, .non => .non
  | _, _, .bl b => .bl b
  | _, _, .int b => .int b
  | _, _, .str b => .str b
  | _, _, .tok b => .tok b
  | _, _, .tup z h r => .tup (hz _ z) (hh _ _ z h) (RDs.mono hz hh r)
  | _, _, .obj z r => .obj (hz _ z) (RO.mono hz hh (fun o h => hh _ o z h) r)
theorem RO.mono (hz : ∀ p, Z p → Z' p) (hh : ∀ p o, Z p → H p = some o → H' p = some o) : ∀ {d : D} {p : Addr}, (∀ o, H p = some o → H' p = some o) → RO tk Z H d p → RO tk Z' H' d p
  | _, _, hp, .lst h r => .lst (hp _ h) (RDs.mono hz hh r)
  | _, _, hp, .dK h r => .dK (hp _ h) (RK.mono hz hh r)
  | _, _, hp, .dT h r => .dT (hp _ h) (RT.mono hz hh r)
theorem RDs.mono (hz : ∀ p, Z p → Z' p) (hh : ∀ p o, Z p → H p = some o → H' p = some o) : ∀ {ds : List D} {vs : List V}, RDs tk Z H ds vs → RDs tk Z' H' ds vs
  | _, _, .nil => .nil
  | _, _, .cons a b => .cons (RD.mono hz hh a) (RDs.mono hz hh b)
theorem RK.mono (hz : ∀ p, Z p → Z' p) (hh : ∀ p o, Z p → H p = some o → H' p = some o) : ∀ {ds : List (D × D)} {vs : List (Key × V)}, RK tk Z H ds vs → RK tk Z' H' ds vs
  | _, _, .nil => .nil
  | _, _, .cons a b => .cons (RD.mono hz hh a) (RK.mono hz hh b)
theorem RT.mono (hz : ∀ p, Z p → Z' p) (hh : ∀ p o, Z p → H p = some o → H' p = some o) : ∀ {ds : List (D × D)} {vs : List (List Key × V)}, RT tk Z H ds vs → RT tk Z' H' ds vs
  | _, _, .nil => .nil
  | _, _, .cons a b => .cons (RD.mono hz hh a) (RT.mono hz hh b)
end
theorem RDs.length : ∀ {ds : List D} {vs : List V}, RDs tk Z H ds vs → ds.length = vs.length
  | _, _, .nil => rfl
  | _, _, .cons _ t => congrArg (· + 1) t.length
theorem RDs.get : ∀ {ds : List D} {vs : List V} {i : Nat} {d : D}, RDs tk Z H ds vs → ds[i]? = some d → ∃ v, vs[i]? = some v ∧ RD tk Z H d v
  | _, _, _, _, .nil, e => by simp at e
  | _, _, 0, _, .cons r _, e => by simp at e; subst e; exact ⟨_, rfl, r⟩
  | _, _, i + 1, _, .cons _ t, e => by
    obtain ⟨v, h1, h2⟩ := RDs.get (i := i) t (by simpa using e)
    exact ⟨v, by simpa using h1, h2⟩
theorem RDs.get' : ∀ {ds : List D} {vs : List V} {i : Nat} {v : V}, RDs tk Z H ds vs → vs[i]? = some v → ∃ d, ds[i]? = some d ∧ RD tk Z H d v
  | _, _, _, _, .nil, e => by simp at e
  | _, _, 0, _, .cons r _, e => by simp at e; subst e; exact ⟨_, rfl, r⟩
  | _, _, i + 1, _, .cons _ t, e => by
    obtain ⟨v, h1, h2⟩ := RDs.get' (i := i) t (by simpa using e)
    exact ⟨v, by simpa using h1, h2⟩
theorem RDs.append : ∀ {ds es : List D} {vs ws : List V}, RDs tk Z H ds vs → RDs tk Z H es ws → RDs tk Z H (ds ++ es) (vs ++ ws)
  | _, _, _, _, .nil, s => s
  | _, _, _, _, .cons r t, s => .cons r (RDs.append t s)
theorem RDs.set : ∀ {ds : List D} {vs : List V} (i : Nat) {d : D} {v : V}, RD tk Z H d v → RDs tk Z H ds vs → RDs tk Z H (ds.set i d) (vs.set i v)
  | _, _, _, _, _, _, .nil => .nil
  | _, _, 0, _, _, r, .cons _ t => .cons r t
  | _, _, i + 1, _, _, r, .cons q t => .cons q (RDs.set i r t)
theorem RDs.take : ∀ {ds : List D} {vs : List V} (n : Nat), RDs tk Z H ds vs → RDs tk Z H (ds.take n) (vs.take n)
  | _, _, 0, _ => .nil
  | _, _, _ + 1, .nil => .nil
  | _, _, n + 1, .cons r t => .cons r (RDs.take n t)
theorem RDs.drop : ∀ {ds : List D} {vs : List V} (n : Nat), RDs tk Z H ds vs → RDs tk Z H (ds.drop n) (vs.drop n)
  | _, _, 0, r => r
  | _, _, _ + 1, .nil => .nil
  | _, _, n + 1, .cons r t => RDs.drop n t
theorem RDs.reverse {ds : List D} {vs : List V} (r : RDs tk Z H ds vs) : RDs tk Z H ds.reverse vs.reverse := by
  induction ds generalizing vs with
  | nil => cases r; exact .nil
  | cons d ds ih =>
    cases r with
    | cons a b =>
      rw [List.reverse_cons, List.reverse_cons]
      exact (ih b).append (.cons a .nil)
theorem RDs.ints : ∀ {is : List Int} {vs : List V}, RDs tk Z H (is.map D.int) vs → vs = is.map V.int ∨ False
  | [], _, .nil => .inl rfl
  | i :: is, _, .cons r t => by
    cases r with
    | int _ =>
      rcases RDs.ints t with e | e
      · rw [e]; exact .inl rfl
      · exact e.elim
    | obj _ ro => cases ro
theorem rds_ints : ∀ (is : List Int), RDs tk Z H (is.map D.int) (is.map V.int)
  | [] => .nil
  | i :: is => .cons (.int i) (rds_ints is)
end

/-! ### the state of a body -/
structure Good (g : Gd) (Z : Addr → Prop) (H : Hp) (ω : W3) : Prop where
  zs : ∀ p, Z p → g.pd ≠ some p ∧ ∃ o, H p = some o ∧ Fix o
  dice : ∀ q, g.pd = some q → H q = some (.lst [.int ω.1, .int ω.2.1, .int ω.2.2])
  tabs : ∀ P ∈ g.T, GxR.TabG H P

/-- what a body is given: the heap ahead, the frozen things ahead, what may be raised, what is wanted then -/
structure Bc where
  g : Gd
  H0 : Hp
  Z0 : Addr → Prop
  cls : Nat → Addr
  Ex : Nat → W3 → Prop
  E : XK
  Rz : Addr → Prop
  hE : ∀ c ω d H' Z', Ex c ω → Ext g H0 H' → Good g Z' H' ω → E (.ref (cls c)) d H'

structure J (B : Bc) (Z : Addr → Prop) (ρ : Fr) (σ : St) (H : Hp) (ω : W3) : Prop where
  good : Good B.g Z H ω
  ext : Ext B.g B.H0 H
  z0 : ∀ p, B.Z0 p → Z p
  zn : ∀ p, Z p → B.Z0 p ∨ B.H0 p = none
  len : ρ.length = σ.length
  val : ∀ (i : Nat) (d : D), ρ[i]? = some (.val d) → ∃ v, σ[i]? = some (some v) ∧ RD B.g.tk Z H d v
  own : ∀ (i : Nat) (d : D), ρ[i]? = some (.own d) → ∃ p, σ[i]? = some (some (.ref p)) ∧ RO B.g.tk Z H d p ∧ ¬ Z p ∧ B.g.pd ≠ some p ∧ B.H0 p = none ∧ ¬ B.Rz p
  res : ∀ p, B.Rz p → ¬ Z p ∧ H p ≠ none
  sep : ∀ (i j : Nat) (d e : D) (p : Addr), ρ[i]? = some (.own d) → ρ[j]? = some (.own e) → σ[i]? = some (some (.ref p)) → σ[j]? = some (some (.ref p)) → i = j

theorem RO.there {tk : Nat → Option V} {Z : Addr → Prop} {H : Hp} {d : D} {p : Addr} (r : RO tk Z H d p) : ∃ o, H p = some o ∧ Fix o := by
  cases r with
  | lst h _ => exact ⟨_, h, fix_lst⟩
  | dK h _ => exact ⟨_, h, fix_dK⟩
  | dT h _ => exact ⟨_, h, fix_dT⟩

/-- the heap grows: new objects, of which Y are frozen -/
structure Grow (g : Gd) (Z : Addr → Prop) (H : Hp) (Z' : Addr → Prop) (H' : Hp) : Prop where
  sub : ∀ p, Z p → Z' p
  new : ∀ p, Z' p → Z p ∨ (H p = none ∧ ∃ o, H' p = some o ∧ Fix o)
  keep : ∀ p o, H p = some o → H' p = some o
theorem Grow.refl {g : Gd} {Z : Addr → Prop} {H : Hp} : Grow g Z H Z H := ⟨fun _ h => h, fun _ h => .inl h, fun _ _ h => h⟩
theorem Grow.ext {g : Gd} {Z Z' : Addr → Prop} {H H' : Hp} (a : Grow g Z H Z' H') : Ext g H H' := ⟨fun p o h _ _ => a.keep p o h, fun p h => by
  cases q : H p with
  | none => rfl
  | some o => rw [a.keep p o q] at h; cases h⟩
theorem Grow.trans {g : Gd} {Z Z1 Z2 : Addr → Prop} {H H1 H2 : Hp} (a : Grow g Z H Z1 H1) (b : Grow g Z1 H1 Z2 H2) : Grow g Z H Z2 H2 :=
  ⟨fun p h => b.sub p (a.sub p h), fun p h => by
    rcases b.new p h with h | ⟨h, o, e, f⟩
    · rcases a.new p h with h | ⟨h, o, e, f⟩
      · exact .inl h
      · exact .inr ⟨h, o, b.keep p o e, f⟩
    · refine .inr ⟨?_, o, e, f⟩
      cases q : H p with
      | none => rfl
      | some u => (rw [a.keep p u q] at h; cases h), fun p o h => b.keep p o (a.keep p o h)⟩
theorem RD.grow {g : Gd} {tk : Nat → Option V} {Z Z' : Addr → Prop} {H H' : Hp} (a : Grow g Z H Z' H') {d : D} {v : V} (r : RD tk Z H d v) : RD tk Z' H' d v := r.mono a.sub fun p o _ h => a.keep p o h
theorem RDs.grow {g : Gd} {tk : Nat → Option V} {Z Z' : Addr → Prop} {H H' : Hp} (a : Grow g Z H Z' H') {d : List D} {v : List V} (r : RDs tk Z H d v) : RDs tk Z' H' d v := r.mono a.sub fun p o _ h => a.keep p o h
theorem RO.grow {g : Gd} {tk : Nat → Option V} {Z Z' : Addr → Prop} {H H' : Hp} (a : Grow g Z H Z' H') {d : D} {v : Addr} (r : RO tk Z H d v) : RO tk Z' H' d v := r.mono a.sub (fun p o _ h => a.keep p o h) fun o h => a.keep _ o h

theorem tabG_keep {H H' : Hp} {P : Addr} (h : GxR.TabG H P) (k : ∀ o, H P = some o → H' P = some o) : GxR.TabG H' P := by
  obtain ⟨ps, e, t⟩ := h
  exact ⟨ps, k _ e, t⟩

section
variable {B : Bc} {Z Z' : Addr → Prop} {ρ : Fr} {σ : St} {H H' : Hp} {ω : W3}
theorem Good.grow (h : Good B.g Z H ω) (a : Grow B.g Z H Z' H') : Good B.g Z' H' ω where
  zs := fun p z => by
    rcases a.new p z with z | ⟨z, o, e, f⟩
    · obtain ⟨n, o, e, f⟩ := h.zs p z
      exact ⟨n, o, a.keep p o e, f⟩
    · refine ⟨?_, o, e, f⟩
      intro e'
      rw [h.dice _ e'] at z; cases z
  dice := fun q e => a.keep _ _ (h.dice q e)
  tabs := fun P hP => tabG_keep (h.tabs P hP) fun o e => a.keep P o e
theorem J.grow (j : J B Z ρ σ H ω) (a : Grow B.g Z H Z' H') : J B Z' ρ σ H' ω where
  good := j.good.grow a
  ext := j.ext.trans a.ext
  z0 := fun p h => a.sub p (j.z0 p h)
  zn := fun p h => by
    rcases a.new p h with h | ⟨h, o, e, f⟩
    · exact j.zn p h
    · exact .inr (j.ext.dom p h)
  len := j.len
  val := fun i d e => by
    obtain ⟨v, h1, h2⟩ := j.val i d e
    exact ⟨v, h1, h2.grow a⟩
  own := fun i d e => by
    obtain ⟨p, h1, h2, h3, h4, h5, h6⟩ := j.own i d e
    refine ⟨p, h1, h2.grow a, fun z => ?_, h4, h5, h6⟩
    rcases a.new p z with z | ⟨z, _⟩
    · exact h3 z
    · obtain ⟨o, e, _⟩ := h2.there
      rw [e] at z; cases z
  res := fun p r => ⟨fun z => by
    rcases a.new p z with z | ⟨z, _⟩
    · exact (j.res p r).1 z
    · exact (j.res p r).2 z, fun z => (j.res p r).2 (a.ext.dom p z)⟩
  sep := j.sep
end
end L2.Fl

namespace L2.Fl
open PySem PySem.Spec PyProof.Rows

/-! ### steps -/
section
variable {g : Gd} {tk : Nat → Option V} {Z Z' : Addr → Prop} {H H' : Hp} {ω : W3}
theorem Good.kept (k : Good g Z H ω) (e : Ext g H H') : ∀ p o, Z p → H p = some o → H' p = some o := fun p o z h => by
  obtain ⟨n, o', h', f⟩ := k.zs p z
  rw [h] at h'; cases h'
  exact e.keep p o h n f
theorem RD.ext (k : Good g Z H ω) (zz : ∀ p, Z p → Z' p) (e : Ext g H H') {d : D} {v : V} (r : RD g.tk Z H d v) : RD g.tk Z' H' d v := r.mono zz (k.kept e)
theorem RDs.ext (k : Good g Z H ω) (zz : ∀ p, Z p → Z' p) (e : Ext g H H') {d : List D} {v : List V} (r : RDs g.tk Z H d v) : RDs g.tk Z' H' d v := r.mono zz (k.kept e)
theorem RO.ext (k : Good g Z H ω) (zz : ∀ p, Z p → Z' p) (e : Ext g H H') {d : D} {p : Addr} (np : g.pd ≠ some p) (r : RO g.tk Z H d p) : RO g.tk Z' H' d p := by
  obtain ⟨o, h, f⟩ := r.there
  exact r.mono zz (k.kept e) fun o' h' => by rw [h] at h'; cases h'; exact e.keep p o h np f
/-- a thing that may be read: frozen, or one's own -/
def BR (g : Gd) (Z : Addr → Prop) (H : Hp) (d : D) (v : V) : Prop := RD g.tk Z H d v ∨ ∃ p, v = .ref p ∧ g.pd ≠ some p ∧ RO g.tk Z H d p
theorem BR.ext (k : Good g Z H ω) (zz : ∀ p, Z p → Z' p) (e : Ext g H H') {d : D} {v : V} (r : BR g Z H d v) : BR g Z' H' d v := by
  rcases r with r | ⟨p, rfl, n, r⟩
  · exact .inl (r.ext k zz e)
  · exact .inr ⟨p, rfl, n, r.ext k zz e n⟩
theorem BR.grow (a : Grow g Z H Z' H') {d : D} {v : V} (r : BR g Z H d v) : BR g Z' H' d v := by
  rcases r with r | ⟨p, rfl, n, r⟩
  · exact .inl (r.grow a)
  · exact .inr ⟨p, rfl, n, r.grow a⟩
theorem BR.int {i : Int} {v : V} (r : BR g Z H (.int i) v) : v = .int i := by
  rcases r with r | ⟨p, rfl, n, r⟩
  · cases r with
    | int _ => rfl
    | obj _ r => cases r
  · cases r
theorem BR.bl {i : Bool} {v : V} (r : BR g Z H (.bl i) v) : v = .bl i := by
  rcases r with r | ⟨p, rfl, n, r⟩
  · cases r with
    | bl _ => rfl
    | obj _ r => cases r
  · cases r
theorem BR.non {v : V} (r : BR g Z H .non v) : v = .non := by
  rcases r with r | ⟨p, rfl, n, r⟩
  · cases r with
    | non => rfl
    | obj _ r => cases r
  · cases r
theorem BR.str {i : Str} {v : V} (r : BR g Z H (.str i) v) : v = .str i := by
  rcases r with r | ⟨p, rfl, n, r⟩
  · cases r with
    | str _ => rfl
    | obj _ r => cases r
  · cases r
theorem BR.tup {ds : List D} {v : V} (r : BR g Z H (.tup ds) v) : ∃ p vs, v = .ref p ∧ Z p ∧ H p = some (.tup vs) ∧ RDs g.tk Z H ds vs := by
  rcases r with r | ⟨p, rfl, n, r⟩
  · cases r with
    | tup z h r => exact ⟨_, _, rfl, z, h, r⟩
    | obj _ r => cases r
  · cases r
theorem BR.lst {ds : List D} {v : V} (r : BR g Z H (.lst ds) v) : ∃ p vs, v = .ref p ∧ H p = some (.lst vs) ∧ RDs g.tk Z H ds vs := by
  rcases r with r | ⟨p, rfl, n, r⟩
  · cases r with
    | obj z r =>
      cases r with
      | lst h r => exact ⟨_, _, rfl, h, r⟩
  · cases r with
    | lst h r => exact ⟨p, _, rfl, h, r⟩
end

/-! ### readings -/
def Out.andThen {α β : Type} (o : Out α) (k : α → Fr → W3 → Out β) : Out β :=
  match o with
  | .ok a ρ ω => k a ρ ω
  | .exc c ω => .exc c ω
  | .bad => .bad
def RdE (B : Bc) (f : EM D) : TE := fun σ H Q => ∃ Z ρ ω, J B Z ρ σ H ω ∧ match f ρ ω with
  | .ok d ρ' ω' => ∀ (Z' : Addr → Prop) (v : V) (H' : Hp), Ext B.g H H' → (∀ p, Z p → Z' p) → J B Z' ρ' σ H' ω' → RD B.g.tk Z' H' d v → Q v H'
  | .exc c ω' => B.Ex c ω'
  | .bad => False
def RdB (B : Bc) (f : EM D) : TE := fun σ H Q => ∃ Z ρ ω, J B Z ρ σ H ω ∧ match f ρ ω with
  | .ok d ρ' ω' => ∀ (Z' : Addr → Prop) (v : V) (H' : Hp), Ext B.g H H' → (∀ p, Z p → Z' p) → J B Z' ρ' σ H' ω' → BR B.g Z' H' d v → Q v H'
  | .exc c ω' => B.Ex c ω'
  | .bad => False
def RdT (B : Bc) (f : EM Bool) : TT := fun σ H Q => ∃ Z ρ ω, J B Z ρ σ H ω ∧ match f ρ ω with
  | .ok b ρ' ω' => ∀ (Z' : Addr → Prop) (H' : Hp), Ext B.g H H' → (∀ p, Z p → Z' p) → J B Z' ρ' σ H' ω' → Q b H'
  | .exc c ω' => B.Ex c ω'
  | .bad => False
def RdA (B : Bc) (f : EM (List D)) : TA := fun σ H Q => ∃ Z ρ ω, J B Z ρ σ H ω ∧ match f ρ ω with
  | .ok ds ρ' ω' => ∀ (Z' : Addr → Prop) (vs : List V) (H' : Hp), Ext B.g H H' → (∀ p, Z p → Z' p) → J B Z' ρ' σ H' ω' → RDs B.g.tk Z' H' ds vs → Q vs H'
  | .exc c ω' => B.Ex c ω'
  | .bad => False
/-- a new list, nobody's yet -/
def RdF (B : Bc) (f : EM (List D)) : TE := fun σ H Q => ∃ Z ρ ω, J B Z ρ σ H ω ∧ match f ρ ω with
  | .ok ds ρ' ω' => ∀ (Z' : Addr → Prop) (p : Addr) (vs : List V) (H' : Hp), Ext B.g H H' → (∀ p, Z p → Z' p) → J B Z' ρ' σ H' ω' → H' p = some (.lst vs) → RDs B.g.tk Z' H' ds vs → ¬ Z' p → B.g.pd ≠ some p → B.H0 p = none → ¬ B.Rz p →
      (∀ (i : Nat) (d : D), ρ'[i]? = some (.own d) → σ[i]? ≠ some (some (.ref p))) → Q (.ref p) H'
  | .exc c ω' => B.Ex c ω'
  | .bad => False

section
variable {X : Cx} {B : Bc} {e a b : Expr}
theorem PE.imp {t t' : TE} (h : PE X e t) (i : ∀ σ H Q, t' σ H Q → t σ H Q) : PE X e t' := ⟨fun pins s σ H Q I q => h.run pins s σ H Q I (i σ H Q q)⟩
theorem PT.imp {t t' : TT} (h : PT X e t) (i : ∀ σ H Q, t' σ H Q → t σ H Q) : PT X e t' := ⟨fun pins s σ H Q I q => h.run pins s σ H Q I (i σ H Q q)⟩
theorem PA.imp {es : List Expr} {t t' : TA} (h : PA X es t) (i : ∀ σ H Q, t' σ H Q → t σ H Q) : PA X es t' := ⟨fun pos pins s σ H Q I q => h.run pos pins s σ H Q I (i σ H Q q)⟩
theorem PS.imp {st : Stmt} {t t' : TS} (h : PS X st t) (i : ∀ D σ H, t' D σ H → t D σ H) : PS X st t' := ⟨fun pins s σ H D I q => h.run pins s σ H D I (i D σ H q)⟩
theorem PSs.imp {st : List Stmt} {t t' : TS} (h : PSs X st t) (i : ∀ D σ H, t' D σ H → t D σ H) : PSs X st t' := ⟨fun pins s σ H D I q => h.run pins s σ H D I (i D σ H q)⟩

/-! names -/
def vr (i : Nat) : EM D := fun ρ ω => match ρ[i]? with
  | some (.val d) => .ok d ρ ω
  | some (.own d) => .ok d (ρ.set i (.val d)) ω
  | _ => .bad
def bw (i : Nat) : EM D := fun ρ ω => match ρ[i]? with
  | some (.val d) => .ok d ρ ω
  | some (.own d) => .ok d ρ ω
  | _ => .bad
/-- one's own thing is frozen -/
theorem J.freeze {Z : Addr → Prop} {ρ : Fr} {σ : St} {H : Hp} {ω : W3} {i : Nat} {d : D} {p : Addr} (j : J B Z ρ σ H ω) (ei : ρ[i]? = some (.own d)) (es : σ[i]? = some (some (.ref p))) (ro : RO B.g.tk Z H d p) (np : B.g.pd ≠ some p) (h0 : B.H0 p = none) (nr : ¬ B.Rz p) :
    J B (fun q => Z q ∨ q = p) (ρ.set i (.val d)) σ H ω ∧ RD B.g.tk (fun q => Z q ∨ q = p) H d (.ref p) := by
  have rd : RD B.g.tk (fun q => Z q ∨ q = p) H d (.ref p) := .obj (.inr rfl) (ro.mono (fun _ z => .inl z) (fun _ _ _ h => h) fun _ h => h)
  have hi : i < ρ.length := (List.getElem?_eq_some_iff.mp ei).1
  refine ⟨⟨⟨fun q z => ?_, j.good.dice, j.good.tabs⟩, j.ext, fun q z => .inl (j.z0 q z), fun q z => ?_, by rw [List.length_set]; exact j.len, fun k e ek => ?_, fun k e ek => ?_, fun q r => ⟨fun z => ?_, (j.res q r).2⟩, fun k l e f q ek el => ?_⟩, rd⟩
  · rcases z with z | rfl
    · exact j.good.zs q z
    · obtain ⟨o, h, f⟩ := ro.there
      exact ⟨np, o, h, f⟩
  · rcases z with z | rfl
    · exact j.zn q z
    · exact .inr h0
  · by_cases hk : i = k
    · subst hk
      rw [List.getElem?_set_self hi] at ek
      cases ek
      exact ⟨_, es, rd⟩
    · rw [List.getElem?_set_ne hk] at ek
      obtain ⟨v, h1, h2⟩ := j.val k e ek
      exact ⟨v, h1, h2.mono (fun _ z => .inl z) fun _ _ _ h => h⟩
  · by_cases hk : i = k
    · subst hk
      rw [List.getElem?_set_self hi] at ek
      cases ek
    · rw [List.getElem?_set_ne hk] at ek
      obtain ⟨q, h1, h2, h3, h4, h5, h6⟩ := j.own k e ek
      refine ⟨q, h1, h2.mono (fun _ z => .inl z) (fun _ _ _ h => h) fun _ h => h, fun z => ?_, h4, h5, h6⟩
      rcases z with z | rfl
      · exact h3 z
      · exact hk (j.sep i k d e q ei ek es h1)
  · rcases z with z | rfl
    · exact (j.res q r).1 z
    · exact nr r
  · by_cases hk : i = k
    · subst hk
      rw [List.getElem?_set_self hi] at ek
      cases ek
    · by_cases hl : i = l
      · subst hl
        rw [List.getElem?_set_self hi] at el
        cases el
      · rw [List.getElem?_set_ne hk] at ek
        rw [List.getElem?_set_ne hl] at el
        exact j.sep k l e f q ek el
theorem m_vr {i : Nat} (h : PE X e (tVar i)) : PE X e (RdE B (vr i)) := PE.imp h fun σ H Q ⟨Z, ρ, ω, j, h⟩ => by
  unfold vr at h
  cases ei : ρ[i]? with
  | none => simp only [ei] at h
  | some s =>
    simp only [ei] at h
    cases s with
    | no => exact h.elim
    | val d =>
      obtain ⟨v, h1, h2⟩ := j.val i d ei
      exact ⟨v, h1, h Z v H .refl (fun _ z => z) j h2⟩
    | own d =>
      obtain ⟨p, h1, h2, h3, h4, h5, h6⟩ := j.own i d ei
      obtain ⟨j', rd⟩ := j.freeze ei h1 h2 h4 h5 h6
      exact ⟨_, h1, h _ _ H .refl (fun _ z => .inl z) j' rd⟩
theorem m_bw {i : Nat} (h : PE X e (tVar i)) : PE X e (RdB B (bw i)) := PE.imp h fun σ H Q ⟨Z, ρ, ω, j, h⟩ => by
  unfold bw at h
  cases ei : ρ[i]? with
  | none => simp only [ei] at h
  | some s =>
    simp only [ei] at h
    cases s with
    | no => exact h.elim
    | val d =>
      obtain ⟨v, h1, h2⟩ := j.val i d ei
      exact ⟨v, h1, h Z v H .refl (fun _ z => z) j (.inl h2)⟩
    | own d =>
      obtain ⟨p, h1, h2, h3, h4, h5, h6⟩ := j.own i d ei
      exact ⟨_, h1, h _ _ H .refl (fun _ z => z) j (.inr ⟨p, rfl, h4, h2⟩)⟩
/-- what may be handed on may be read -/
theorem m_b {f : EM D} (h : PE X e (RdE B f)) : PE X e (RdB B f) := PE.imp h fun σ H Q ⟨Z, ρ, ω, j, h⟩ => by
  refine ⟨Z, ρ, ω, j, ?_⟩
  cases ef : f ρ ω with
  | bad => simp only [ef] at h
  | exc c ω' => simp only [ef] at h; exact h
  | ok d ρ' ω' =>
    simp only [ef] at h
    intro Z' v H' e1 e2 e3 e4
    exact h Z' v H' e1 e2 e3 (.inl e4)

/-! constants -/
def kk (d : D) : EM D := fun ρ ω => .ok d ρ ω
theorem m_k {d : D} {v : V} (h : PE X e (tC v)) (r : ∀ Z H, RD B.g.tk Z H d v) : PE X e (RdE B (kk d)) := PE.imp h fun σ H Q ⟨Z, ρ, ω, j, h⟩ => h Z v H .refl (fun _ z => z) j (r Z H)
theorem m_int {i : Int} (h : PE X e (tC (.int i))) : PE X e (RdE B (kk (.int i))) := m_k h fun _ _ => .int i
theorem m_bl {i : Bool} (h : PE X e (tC (.bl i))) : PE X e (RdE B (kk (.bl i))) := m_k h fun _ _ => .bl i
theorem m_non (h : PE X e (tC .non)) : PE X e (RdE B (kk .non)) := m_k h fun _ _ => .non
theorem m_str {i : Str} (h : PE X e (tC (.str i))) : PE X e (RdE B (kk (.str i))) := m_k h fun _ _ => .str i

/-! operators by values -/
def Sim1 (g : Gd) (r : V → Hp → VK → Prop) (f : D → Option D) : Prop := ∀ (Z : Addr → Prop) (H : Hp) (ω : W3) (x : V) (a d : D) (Q : VK), Good g Z H ω → BR g Z H a x → f a = some d →
  (∀ Z' v H', Grow g Z H Z' H' → RD g.tk Z' H' d v → Q v H') → r x H Q
def Sim2 (g : Gd) (r : R2) (f : D → D → Option D) : Prop := ∀ (Z : Addr → Prop) (H : Hp) (ω : W3) (x y : V) (a b d : D) (Q : VK), Good g Z H ω → BR g Z H a x → BR g Z H b y → f a b = some d →
  (∀ Z' v H', Grow g Z H Z' H' → RD g.tk Z' H' d v → Q v H') → r x y H Q
def optM {α : Type} (o : Option α) : EM α := fun ρ ω => match o with
  | some d => .ok d ρ ω
  | none => .bad
def op1 (f : D → Option D) (a : EM D) : EM D := fun ρ ω => (a ρ ω).andThen fun x => optM (f x)
def op2 (f : D → D → Option D) (a b : EM D) : EM D := fun ρ ω => (a ρ ω).andThen fun x ρ ω => (b ρ ω).andThen fun y => optM (f x y)
theorem i_op1 {r : V → Hp → VK → Prop} {f : D → Option D} {fa : EM D} (hs : Sim1 B.g r f) : ∀ σ H Q, RdE B (op1 f fa) σ H Q → RdB B fa σ H fun x H1 => r x H1 Q := fun σ H Q ⟨Z, ρ, ω, j, h⟩ => by
  refine ⟨Z, ρ, ω, j, ?_⟩
  unfold op1 at h
  cases ea : fa ρ ω with
  | bad => simp only [ea, Out.andThen] at h
  | exc c ω' => simp only [ea, Out.andThen] at h; exact h
  | ok d ρ1 ω1 =>
    simp only [ea, Out.andThen, optM] at h
    intro Z1 x H1 e1 z1 j1 r1
    cases ef : f d with
    | none => simp only [ef] at h
    | some u =>
      simp only [ef] at h
      exact hs Z1 H1 ω1 x d u Q j1.good r1 ef fun Z2 v H2 gr rd => h Z2 v H2 (e1.trans gr.ext) (fun p z => gr.sub p (z1 p z)) (j1.grow gr) rd
theorem i_op2 {r : R2} {f : D → D → Option D} {fa fb : EM D} (hs : Sim2 B.g r f) : ∀ σ H Q, RdE B (op2 f fa fb) σ H Q → RdB B fa σ H fun x H1 => RdB B fb σ H1 fun y H2 => r x y H2 Q := fun σ H Q ⟨Z, ρ, ω, j, h⟩ => by
  refine ⟨Z, ρ, ω, j, ?_⟩
  unfold op2 at h
  cases ea : fa ρ ω with
  | bad => simp only [ea, Out.andThen] at h
  | exc c ω' => simp only [ea, Out.andThen] at h; exact h
  | ok d ρ1 ω1 =>
    simp only [ea, Out.andThen, optM] at h
    intro Z1 x H1 e1 z1 j1 r1
    refine ⟨Z1, ρ1, ω1, j1, ?_⟩
    cases eb : fb ρ1 ω1 with
    | bad => simp only [eb] at h
    | exc c ω' => simp only [eb] at h; exact h
    | ok d2 ρ2 ω2 =>
      simp only [eb] at h
      intro Z2 y H2 e2 z2 j2 r2
      cases ef : f d d2 with
      | none => simp only [ef] at h
      | some u =>
        simp only [ef] at h
        exact hs Z2 H2 ω2 x y d d2 u Q j2.good (r1.ext j1.good z2 e2) r2 ef fun Z3 v H3 gr rd => h Z3 v H3 (e1.trans (e2.trans gr.ext)) (fun p z => gr.sub p (z2 p (z1 p z))) (j2.grow gr) rd
theorem m_op1 {r : V → Hp → VK → Prop} {f : D → Option D} {fa : EM D} (hs : Sim1 B.g r f) (hc : ∀ ta : TE, PE X a ta → PE X e (fun σ H Q => ta σ H fun x H1 => r x H1 Q)) (ha : PE X a (RdB B fa)) : PE X e (RdE B (op1 f fa)) :=
  PE.imp (hc _ ha) (i_op1 hs)
theorem m_op2 {r : R2} {f : D → D → Option D} {fa fb : EM D} (hs : Sim2 B.g r f) (hc : ∀ ta tb : TE, PE X a ta → PE X b tb → PE X e (fun σ H Q => ta σ H fun x H1 => tb σ H1 fun y H2 => r x y H2 Q)) (ha : PE X a (RdB B fa)) (hb : PE X b (RdB B fb)) : PE X e (RdE B (op2 f fa fb)) :=
  PE.imp (hc _ _ ha hb) (i_op2 hs)

/-! tests -/
def asB (f : EM D) : EM Bool := fun ρ ω => (f ρ ω).andThen fun d ρ ω => match d with
  | .bl b => .ok b ρ ω
  | _ => .bad
theorem i_test {f : EM D} {t : TE} (h : ∀ σ H Q, RdE B f σ H Q → t σ H Q) : ∀ σ H Q, RdT B (asB f) σ H Q → t σ H fun x H' => ∃ k, x = .bl k ∧ Q k H' := fun σ H Q ⟨Z, ρ, ω, j, q⟩ => by
  refine h σ H _ ⟨Z, ρ, ω, j, ?_⟩
  unfold asB at q
  cases ea : f ρ ω with
  | bad => simp only [ea, Out.andThen] at q
  | exc c ω' => simp only [ea, Out.andThen] at q; exact q
  | ok d ρ1 ω1 =>
    simp only [ea, Out.andThen] at q
    intro Z1 x H1 e1 z1 j1 r1
    cases d with
    | bl k => exact ⟨k, BR.bl (.inl r1), q Z1 H1 e1 z1 j1⟩
    | _ => exact q.elim
theorem m_tval {f : EM D} (h : PE X e (RdE B f)) (he : ∀ whole, isTrue e X.env whole = (do let v ← whole; standAt e.pos; holding [v] (truthy v)) := by intro _; rfl) : PT X e (RdT B (asB f)) := PT.imp (pt_val h he) (i_test fun _ _ _ h => h)
/-- a comparison as a test -/
theorem m_tcmp {op : CmpOp} {pos : Pos} {r : R2} {f : D → D → Option D} {fa fb : EM D} (hs : Sim2 B.g r f) (ho : OpR X (compareOp op) r) (ha : PE X a (RdB B fa)) (hb : PE X b (RdB B fb)) (hm : behindInMarks op b = false) :
    PT X (.Compare a [op] [b] pos) (RdT B (asB (op2 f fa fb))) := PT.imp (pt_cmpR ho ha hb hm) (i_test (i_op2 hs))
theorem m_cmp {op : CmpOp} {pos : Pos} {r : R2} {f : D → D → Option D} {fa fb : EM D} (hs : Sim2 B.g r f) (ho : OpR X (compareOp op) r) (ha : PE X a (RdB B fa)) (hb : PE X b (RdB B fb)) (hm : behindInMarks op b = false) :
    PE X (.Compare a [op] [b] pos) (RdE B (op2 f fa fb)) := PE.imp (pe_cmpR ho ha hb hm) (i_op2 hs)
def notT (f : EM Bool) : EM Bool := fun ρ ω => (f ρ ω).andThen fun b ρ ω => .ok (!b) ρ ω
def andT (f h : EM Bool) : EM Bool := fun ρ ω => (f ρ ω).andThen fun b ρ ω => match b with
  | true => h ρ ω
  | false => .ok false ρ ω
def orT (f h : EM Bool) : EM Bool := fun ρ ω => (f ρ ω).andThen fun b ρ ω => match b with
  | true => .ok true ρ ω
  | false => h ρ ω
theorem m_tnot {pos : Pos} {f : EM Bool} (h : PT X a (RdT B f)) : PT X (.UnaryOp .Not a pos) (RdT B (notT f)) := PT.imp (pt_not h) fun σ H Q ⟨Z, ρ, ω, j, q⟩ => by
  refine ⟨Z, ρ, ω, j, ?_⟩
  unfold notT at q
  cases ea : f ρ ω with
  | bad => simp only [ea, Out.andThen] at q
  | exc c ω' => simp only [ea, Out.andThen] at q; exact q
  | ok d ρ1 ω1 =>
    simp only [ea, Out.andThen] at q
    exact q
end
end L2.Fl

namespace L2.Fl
open PySem PySem.Spec PyProof.Rows

section
variable {X : Cx} {B : Bc} {e a b c : Expr} {rest : List Expr} {pos : Pos}
/-! and, or, conditional expressions, chains -/
theorem i_andT {f h : EM Bool} {t u : TT} (hf : ∀ σ H Q, RdT B f σ H Q → t σ H Q) (hh : ∀ σ H Q, RdT B h σ H Q → u σ H Q) : ∀ σ H Q, RdT B (andT f h) σ H Q → tAnd t u σ H Q := fun σ H Q ⟨Z, ρ, ω, j, q⟩ => by
  refine hf σ H _ ⟨Z, ρ, ω, j, ?_⟩
  unfold andT at q
  cases ea : f ρ ω with
  | bad => simp only [ea, Out.andThen] at q
  | exc c ω' => simp only [ea, Out.andThen] at q; exact q
  | ok d ρ1 ω1 =>
    simp only [ea, Out.andThen] at q
    intro Z1 H1 e1 z1 j1
    cases d with
    | false =>
      simp only at q
      simp only [Bool.false_eq_true, if_false]
      exact q Z1 H1 e1 z1 j1
    | true =>
      simp only at q
      simp only [if_true]
      refine hh σ H1 Q ⟨Z1, ρ1, ω1, j1, ?_⟩
      cases eb : h ρ1 ω1 with
      | bad => simp only [eb] at q
      | exc c ω' => simp only [eb] at q; exact q
      | ok d ρ2 ω2 =>
        simp only [eb] at q
        exact fun Z2 H2 e2 z2 j2 => q Z2 H2 (e1.trans e2) (fun p z => z2 p (z1 p z)) j2
theorem i_orT {f h : EM Bool} {t u : TT} (hf : ∀ σ H Q, RdT B f σ H Q → t σ H Q) (hh : ∀ σ H Q, RdT B h σ H Q → u σ H Q) : ∀ σ H Q, RdT B (orT f h) σ H Q → tOr t u σ H Q := fun σ H Q ⟨Z, ρ, ω, j, q⟩ => by
  refine hf σ H _ ⟨Z, ρ, ω, j, ?_⟩
  unfold orT at q
  cases ea : f ρ ω with
  | bad => simp only [ea, Out.andThen] at q
  | exc c ω' => simp only [ea, Out.andThen] at q; exact q
  | ok d ρ1 ω1 =>
    simp only [ea, Out.andThen] at q
    intro Z1 H1 e1 z1 j1
    cases d with
    | true =>
      simp only at q
      simp only [if_true]
      exact q Z1 H1 e1 z1 j1
    | false =>
      simp only at q
      simp only [Bool.false_eq_true, if_false]
      refine hh σ H1 Q ⟨Z1, ρ1, ω1, j1, ?_⟩
      cases eb : h ρ1 ω1 with
      | bad => simp only [eb] at q
      | exc c ω' => simp only [eb] at q; exact q
      | ok d ρ2 ω2 =>
        simp only [eb] at q
        exact fun Z2 H2 e2 z2 j2 => q Z2 H2 (e1.trans e2) (fun p z => z2 p (z1 p z)) j2
theorem PW.imp {t t' : TT} (h : PW X e t) (i : ∀ σ H Q, t' σ H Q → t σ H Q) : PW X e t' := ⟨fun wh pins s σ H Q I q => h.run wh pins s σ H Q I (i σ H Q q)⟩
theorem w_and1 {f : EM Bool} (ha : PT X a (RdT B f)) : PW X (.BoolOp .And [a] pos) (RdT B f) := pw_and1 ha
theorem w_or1 {f : EM Bool} (ha : PT X a (RdT B f)) : PW X (.BoolOp .Or [a] pos) (RdT B f) := pw_or1 ha
theorem w_and {f h : EM Bool} (ha : PT X a (RdT B f)) (hb : PW X (.BoolOp .And (b :: rest) pos) (RdT B h)) : PW X (.BoolOp .And (a :: b :: rest) pos) (RdT B (andT f h)) := PW.imp (pw_and ha hb) (i_andT (fun _ _ _ h => h) fun _ _ _ h => h)
theorem w_or {f h : EM Bool} (ha : PT X a (RdT B f)) (hb : PW X (.BoolOp .Or (b :: rest) pos) (RdT B h)) : PW X (.BoolOp .Or (a :: b :: rest) pos) (RdT B (orT f h)) := PW.imp (pw_or ha hb) (i_orT (fun _ _ _ h => h) fun _ _ _ h => h)

def ofT (f : EM Bool) : EM D := fun ρ ω => (f ρ ω).andThen fun b ρ ω => .ok (.bl b) ρ ω
/-- values that are bools -/
theorem i_asB {f : EM D} : ∀ σ H (Q : Bool → Hp → Prop), RdT B (asB f) σ H Q → RdE B f σ H fun x H' => ∃ k, x = .bl k ∧ Q k H' := i_test fun _ _ _ h => h
theorem m_andV {f h : EM D} (ha : PE X a (RdE B f)) (hb : PE X (.BoolOp .And (b :: rest) pos) (RdE B h)) : PE X (.BoolOp .And (a :: b :: rest) pos) (RdE B (ofT (andT (asB f) (asB h)))) := PE.imp (pe_and ha hb) fun σ H Q ⟨Z, ρ, ω, j, q⟩ => by
  have q2 : RdT B (andT (asB f) (asB h)) σ H fun k H' => Q (.bl k) H' := by
    refine ⟨Z, ρ, ω, j, ?_⟩
    unfold ofT at q
    cases ea : andT (asB f) (asB h) ρ ω with
    | bad => simp only [ea, Out.andThen] at q
    | exc c ω' => simp only [ea, Out.andThen] at q; exact q
    | ok d ρ1 ω1 =>
      simp only [ea, Out.andThen] at q
      exact fun Z1 H1 e1 z1 j1 => q Z1 _ H1 e1 z1 j1 (.bl d)
  have q3 := i_andT (t := RdT B (asB f)) (u := RdT B (asB h)) (fun _ _ _ h => h) (fun _ _ _ h => h) σ H _ q2
  have q4 := i_asB σ H _ q3
  obtain ⟨Z', ρ', ω', j', q5⟩ := q4
  refine ⟨Z', ρ', ω', j', ?_⟩
  cases ea : f ρ' ω' with
  | bad => simp only [ea] at q5
  | exc c ω' => simp only [ea] at q5; exact q5
  | ok d ρ1 ω1 =>
    simp only [ea] at q5
    intro Z1 v H1 e1 z1 j1 r1
    obtain ⟨k, rfl, q6⟩ := q5 Z1 v H1 e1 z1 j1 r1
    refine ⟨k, rfl, ?_⟩
    cases k with
    | false =>
      simp only [Bool.false_eq_true, if_false] at q6 ⊢
      exact q6
    | true =>
      simp only [if_true] at q6 ⊢
      obtain ⟨Z2, ρ2, ω2, j2, q7⟩ := i_asB σ H1 _ q6
      refine ⟨Z2, ρ2, ω2, j2, ?_⟩
      cases eb : h ρ2 ω2 with
      | bad => simp only [eb] at q7
      | exc c ω' => simp only [eb] at q7; exact q7
      | ok d ρ3 ω3 =>
        simp only [eb] at q7
        intro Z3 v H3 e3 z3 j3 r3
        obtain ⟨k, rfl, q8⟩ := q7 Z3 v H3 e3 z3 j3 r3
        exact q8
theorem m_orV {f h : EM D} (ha : PE X a (RdE B f)) (hb : PE X (.BoolOp .Or (b :: rest) pos) (RdE B h)) : PE X (.BoolOp .Or (a :: b :: rest) pos) (RdE B (ofT (orT (asB f) (asB h)))) := PE.imp (pe_or ha hb) fun σ H Q ⟨Z, ρ, ω, j, q⟩ => by
  have q2 : RdT B (orT (asB f) (asB h)) σ H fun k H' => Q (.bl k) H' := by
    refine ⟨Z, ρ, ω, j, ?_⟩
    unfold ofT at q
    cases ea : orT (asB f) (asB h) ρ ω with
    | bad => simp only [ea, Out.andThen] at q
    | exc c ω' => simp only [ea, Out.andThen] at q; exact q
    | ok d ρ1 ω1 =>
      simp only [ea, Out.andThen] at q
      exact fun Z1 H1 e1 z1 j1 => q Z1 _ H1 e1 z1 j1 (.bl d)
  have q3 := i_orT (t := RdT B (asB f)) (u := RdT B (asB h)) (fun _ _ _ h => h) (fun _ _ _ h => h) σ H _ q2
  have q4 := i_asB σ H _ q3
  obtain ⟨Z', ρ', ω', j', q5⟩ := q4
  refine ⟨Z', ρ', ω', j', ?_⟩
  cases ea : f ρ' ω' with
  | bad => simp only [ea] at q5
  | exc c ω' => simp only [ea] at q5; exact q5
  | ok d ρ1 ω1 =>
    simp only [ea] at q5
    intro Z1 v H1 e1 z1 j1 r1
    obtain ⟨k, rfl, q6⟩ := q5 Z1 v H1 e1 z1 j1 r1
    refine ⟨k, rfl, ?_⟩
    cases k with
    | true =>
      simp only [if_true] at q6 ⊢
      exact q6
    | false =>
      simp only [Bool.false_eq_true, if_false] at q6 ⊢
      obtain ⟨Z2, ρ2, ω2, j2, q7⟩ := i_asB σ H1 _ q6
      refine ⟨Z2, ρ2, ω2, j2, ?_⟩
      cases eb : h ρ2 ω2 with
      | bad => simp only [eb] at q7
      | exc c ω' => simp only [eb] at q7; exact q7
      | ok d ρ3 ω3 =>
        simp only [eb] at q7
        intro Z3 v H3 e3 z3 j3 r3
        obtain ⟨k, rfl, q8⟩ := q7 Z3 v H3 e3 z3 j3 r3
        exact q8
theorem m_one {op} {f : EM D} (h : PE X a (RdE B f)) : PE X (.BoolOp op [a] pos) (RdE B f) := pe_one h
theorem m_notV {f : EM D} (ha : PE X a (RdE B f)) : PE X (.UnaryOp .Not a pos) (RdE B (ofT (notT (asB f)))) := PE.imp (pe_not ha) fun σ H Q ⟨Z, ρ, ω, j, q⟩ => by
  have q2 : RdT B (asB f) σ H fun k H' => Q (.bl (!k)) H' := by
    refine ⟨Z, ρ, ω, j, ?_⟩
    unfold ofT notT at q
    cases ea : asB f ρ ω with
    | bad => simp only [ea, Out.andThen] at q
    | exc c ω' => simp only [ea, Out.andThen] at q; exact q
    | ok d ρ1 ω1 =>
      simp only [ea, Out.andThen] at q
      exact fun Z1 H1 e1 z1 j1 => q Z1 _ H1 e1 z1 j1 (.bl _)
  exact i_asB σ H _ q2
def ifM {α : Type} (t : EM Bool) (f h : EM α) : EM α := fun ρ ω => (t ρ ω).andThen fun b ρ ω => match b with
  | true => f ρ ω
  | false => h ρ ω
theorem m_if {t : EM Bool} {f h : EM D} (hc : PT X c (RdT B t)) (ha : PE X a (RdE B f)) (hb : PE X b (RdE B h)) : PE X (.IfExp c a b pos) (RdE B (ifM t f h)) := PE.imp (pe_ifExp hc ha hb) fun σ H Q ⟨Z, ρ, ω, j, q⟩ => by
  refine ⟨Z, ρ, ω, j, ?_⟩
  unfold ifM at q
  cases ea : t ρ ω with
  | bad => simp only [ea, Out.andThen] at q
  | exc c ω' => simp only [ea, Out.andThen] at q; exact q
  | ok d ρ1 ω1 =>
    simp only [ea, Out.andThen] at q
    intro Z1 H1 e1 z1 j1
    cases d with
    | true =>
      simp only at q
      simp only [if_true]
      refine ⟨Z1, ρ1, ω1, j1, ?_⟩
      cases eb : f ρ1 ω1 with
      | bad => simp only [eb] at q
      | exc c ω' => simp only [eb] at q; exact q
      | ok d ρ2 ω2 =>
        simp only [eb] at q
        exact fun Z2 v H2 e2 z2 j2 r2 => q Z2 v H2 (e1.trans e2) (fun p z => z2 p (z1 p z)) j2 r2
    | false =>
      simp only at q
      simp only [Bool.false_eq_true, if_false]
      refine ⟨Z1, ρ1, ω1, j1, ?_⟩
      cases eb : h ρ1 ω1 with
      | bad => simp only [eb] at q
      | exc c ω' => simp only [eb] at q; exact q
      | ok d ρ2 ω2 =>
        simp only [eb] at q
        exact fun Z2 v H2 e2 z2 j2 r2 => q Z2 v H2 (e1.trans e2) (fun p z => z2 p (z1 p z)) j2 r2
/-- a < b < c -/
def chM (f f' : D → D → Option D) (fa fb fc : EM D) : EM D := fun ρ ω => (fa ρ ω).andThen fun x ρ ω => (fb ρ ω).andThen fun y ρ ω => match f x y with
  | some (.bl true) => (fc ρ ω).andThen fun z => optM (f' y z)
  | some (.bl false) => .ok (.bl false) ρ ω
  | _ => .bad
theorem i_ch {r r' : R2} {f f' : D → D → Option D} {fa fb fc : EM D} (hs : Sim2 B.g r f) (hs' : Sim2 B.g r' f') : ∀ σ H Q, RdE B (chM f f' fa fb fc) σ H Q → tChain r r' (RdB B fa) (RdB B fb) (RdB B fc) σ H Q := fun σ H Q ⟨Z, ρ, ω, j, h⟩ => by
  refine ⟨Z, ρ, ω, j, ?_⟩
  unfold chM at h
  cases ea : fa ρ ω with
  | bad => simp only [ea, Out.andThen] at h
  | exc c ω' => simp only [ea, Out.andThen] at h; exact h
  | ok d ρ1 ω1 =>
    simp only [ea, Out.andThen, optM] at h
    intro Z1 x H1 e1 z1 j1 r1
    refine ⟨Z1, ρ1, ω1, j1, ?_⟩
    cases eb : fb ρ1 ω1 with
    | bad => simp only [eb] at h
    | exc c ω' => simp only [eb] at h; exact h
    | ok d2 ρ2 ω2 =>
      simp only [eb] at h
      intro Z2 y H2 e2 z2 j2 r2
      cases ef : f d d2 with
      | none => simp only [ef] at h
      | some u =>
        refine hs Z2 H2 ω2 x y d d2 u _ j2.good (r1.ext j1.good z2 e2) r2 ef fun Z3 v H3 gr rd => ?_
        have j3 := j2.grow gr
        have ry := r2.grow gr
        rw [ef] at h
        cases u with
        | bl k =>
          refine ⟨k, BR.bl (.inl rd), ?_⟩
          cases k with
          | false =>
            simp only at h
            simp only [Bool.false_eq_true, if_false]
            exact h Z3 _ H3 (e1.trans (e2.trans gr.ext)) (fun p z => gr.sub p (z2 p (z1 p z))) j3 (.bl false)
          | true =>
            simp only at h
            simp only [if_true]
            refine ⟨Z3, ρ2, ω2, j3, ?_⟩
            cases ec : fc ρ2 ω2 with
            | bad => simp only [ec] at h
            | exc c ω' => simp only [ec] at h; exact h
            | ok d4 ρ4 ω4 =>
              simp only [ec] at h
              intro Z4 z H4 e4 z4 j4 r4
              cases eg : f' d2 d4 with
              | none => simp only [eg] at h
              | some u' =>
                simp only [eg] at h
                exact hs' Z4 H4 ω4 y z d2 d4 u' Q j4.good (ry.ext j3.good z4 e4) r4 eg fun Z5 v H5 gr5 rd5 => h Z5 v H5 (e1.trans (e2.trans (gr.ext.trans (e4.trans gr5.ext)))) (fun p q => gr5.sub p (z4 p (gr.sub p (z2 p (z1 p q))))) (j4.grow gr5) rd5
        | _ => exact h.elim
theorem m_ch {op op' : CmpOp} {r r' : R2} {f f' : D → D → Option D} {fa fb fc : EM D} (hs : Sim2 B.g r f) (hs' : Sim2 B.g r' f') (ho : OpR X (compareOp op) r) (ho' : OpR X (compareOp op') r')
    (hc : PE X (.Compare a [op, op'] [b, c] pos) (tChain r r' (RdB B fa) (RdB B fb) (RdB B fc))) : PE X (.Compare a [op, op'] [b, c] pos) (RdE B (chM f f' fa fb fc)) := PE.imp hc (i_ch hs hs')
theorem m_tch {op op' : CmpOp} {r r' : R2} {f f' : D → D → Option D} {fa fb fc : EM D} (hs : Sim2 B.g r f) (hs' : Sim2 B.g r' f')
    (hc : PT X (.Compare a [op, op'] [b, c] pos) (tTest (tChain r r' (RdB B fa) (RdB B fb) (RdB B fc)))) : PT X (.Compare a [op, op'] [b, c] pos) (RdT B (asB (chM f f' fa fb fc))) := PT.imp hc (i_test (i_ch hs hs'))

/-! argument lists, displays -/
def nilM : EM (List D) := fun ρ ω => .ok [] ρ ω
def consM (f : EM D) (r : EM (List D)) : EM (List D) := fun ρ ω => (f ρ ω).andThen fun x ρ ω => (r ρ ω).andThen fun xs ρ ω => .ok (x :: xs) ρ ω
theorem a_nil : PA X [] (RdA B nilM) := PA.imp pa_nil fun σ H Q ⟨Z, ρ, ω, j, h⟩ => h Z [] H .refl (fun _ z => z) j .nil
theorem i_cons {f : EM D} {r : EM (List D)} : ∀ σ H Q, RdA B (consM f r) σ H Q → tCons (RdE B f) (RdA B r) σ H Q := fun σ H Q ⟨Z, ρ, ω, j, h⟩ => by
  refine ⟨Z, ρ, ω, j, ?_⟩
  unfold consM at h
  cases ea : f ρ ω with
  | bad => simp only [ea, Out.andThen] at h
  | exc c ω' => simp only [ea, Out.andThen] at h; exact h
  | ok d ρ1 ω1 =>
    simp only [ea, Out.andThen] at h
    intro Z1 x H1 e1 z1 j1 r1
    refine ⟨Z1, ρ1, ω1, j1, ?_⟩
    cases eb : r ρ1 ω1 with
    | bad => simp only [eb] at h
    | exc c ω' => simp only [eb] at h; exact h
    | ok d2 ρ2 ω2 =>
      simp only [eb] at h
      exact fun Z2 ys H2 e2 z2 j2 r2 => h Z2 _ H2 (e1.trans e2) (fun p z => z2 p (z1 p z)) j2 (.cons (r1.ext j1.good z2 e2) r2)
theorem a_cons {es : List Expr} {f : EM D} {r : EM (List D)} (ha : PE X e (RdE B f)) (hr : PA X es (RdA B r)) (hs : starEach (e :: es) X.env = (false, eval e X.env) :: starEach es X.env := by rfl) : PA X (e :: es) (RdA B (consM f r)) := PA.imp (pa_cons ha hr hs) i_cons

/-- a new object p is laid -/
theorem grow_new {g : Gd} {Z : Addr → Prop} {H : Hp} {p : Addr} {o : HO} (hp : H p = none) (f : Fix o) : Grow g Z H (fun q => Z q ∨ q = p) (upd H p o) :=
  ⟨fun _ z => .inl z, fun q z => by
    rcases z with z | rfl
    · exact .inl z
    · exact .inr ⟨hp, o, upd_same, f⟩, fun q u h => by rw [upd_ne (ne_of_none h hp)]; exact h⟩
theorem grow_new0 {g : Gd} {Z : Addr → Prop} {H : Hp} {p : Addr} {o : HO} (hp : H p = none) : Grow g Z H Z (upd H p o) :=
  ⟨fun _ z => z, fun q z => .inl z, fun q u h => by rw [upd_ne (ne_of_none h hp)]; exact h⟩
theorem rd_newT {g : Gd} {Z : Addr → Prop} {H : Hp} {p : Addr} {ds : List D} {vs : List V} (hp : H p = none) (r : RDs g.tk Z H ds vs) : RD g.tk (fun q => Z q ∨ q = p) (upd H p (.tup vs)) (.tup ds) (.ref p) :=
  .tup (.inr rfl) upd_same (r.grow (grow_new (g := g) hp fix_tup))
theorem rd_newL {g : Gd} {Z : Addr → Prop} {H : Hp} {p : Addr} {ds : List D} {vs : List V} (hp : H p = none) (r : RDs g.tk Z H ds vs) : RD g.tk (fun q => Z q ∨ q = p) (upd H p (.lst vs)) (.lst ds) (.ref p) :=
  .obj (.inr rfl) (.lst upd_same (r.grow (grow_new (g := g) hp fix_lst)))

def LIM : Nat := 16777216
theorem lim_eq : LIM = sizeLine := by rw [sizeLine_eq]; rfl
def tupM (f : EM (List D)) : EM D := fun ρ ω => (f ρ ω).andThen fun ds ρ ω => if ds.length ≤ LIM then .ok (.tup ds) ρ ω else .bad
def lstF (f : EM (List D)) : EM (List D) := fun ρ ω => (f ρ ω).andThen fun ds ρ ω => if ds.length ≤ LIM then .ok ds ρ ω else .bad
theorem m_tup {es : List Expr} {k} {f : EM (List D)} (h : PA X es (RdA B f)) : PE X (.Tuple es k pos) (RdE B (tupM f)) := PE.imp (pe_tup h) fun σ H Q ⟨Z, ρ, ω, j, h⟩ => by
  refine ⟨Z, ρ, ω, j, ?_⟩
  unfold tupM at h
  cases ea : f ρ ω with
  | bad => simp only [ea, Out.andThen] at h
  | exc c ω' => simp only [ea, Out.andThen] at h; exact h
  | ok ds ρ1 ω1 =>
    simp only [ea, Out.andThen] at h
    intro Z1 vs H1 e1 z1 j1 r1
    by_cases hl : ds.length ≤ LIM
    · rw [if_pos hl] at h
      refine ⟨by rw [← r1.length, ← lim_eq]; exact hl, fun p hp => ?_⟩
      have gr := grow_new (g := B.g) (Z := Z1) (o := .tup vs) hp fix_tup
      exact h _ _ _ (e1.trans gr.ext) (fun q z => .inl (z1 q z)) (j1.grow gr) (rd_newT hp r1)
    · rw [if_neg hl] at h
      exact h.elim
/-- a new list that is nobody's: where it is laid -/
theorem fresh_of {Z : Addr → Prop} {ρ : Fr} {σ : St} {H : Hp} {ω : W3} {p : Addr} (j : J B Z ρ σ H ω) (hp : H p = none) : ¬ Z p ∧ B.g.pd ≠ some p ∧ B.H0 p = none ∧ ¬ B.Rz p ∧ ∀ (i : Nat) (d : D), ρ[i]? = some (.own d) → σ[i]? ≠ some (some (.ref p)) := by
  refine ⟨fun z => ?_, ?_, j.ext.dom p hp, fun r => (j.res p r).2 hp, fun i d e q => ?_⟩
  · obtain ⟨_, o, e, _⟩ := j.good.zs p z
    rw [hp] at e; cases e
  · intro e
    have := j.good.dice _ e
    rw [hp] at this; cases this
  · obtain ⟨p', h1, h2, _⟩ := j.own i d e
    rw [h1] at q; cases q
    obtain ⟨o, e, _⟩ := h2.there
    rw [hp] at e; cases e
theorem f_lst {es : List Expr} {f : EM (List D)} (h : PA X es (RdA B f)) : PE X (.List es pos) (RdF B (lstF f)) := PE.imp (pe_lst h) fun σ H Q ⟨Z, ρ, ω, j, h⟩ => by
  refine ⟨Z, ρ, ω, j, ?_⟩
  unfold lstF at h
  cases ea : f ρ ω with
  | bad => simp only [ea, Out.andThen] at h
  | exc c ω' => simp only [ea, Out.andThen] at h; exact h
  | ok ds ρ1 ω1 =>
    simp only [ea, Out.andThen] at h
    intro Z1 vs H1 e1 z1 j1 r1
    by_cases hl : ds.length ≤ LIM
    · rw [if_pos hl] at h
      refine ⟨by rw [← r1.length, ← lim_eq]; exact hl, fun p hp => ?_⟩
      obtain ⟨n1, n2, n3, n5, n4⟩ := fresh_of j1 hp
      have gr := grow_new0 (g := B.g) (Z := Z1) (o := .lst vs) hp
      exact h Z1 p vs _ (e1.trans gr.ext) z1 (j1.grow gr) upd_same (r1.grow gr) n1 n2 n3 n5 n4
    · rw [if_neg hl] at h
      exact h.elim
/-- a new list as a value -/
def frz (f : EM (List D)) : EM D := fun ρ ω => (f ρ ω).andThen fun ds ρ ω => .ok (.lst ds) ρ ω
theorem J.adopt {Z : Addr → Prop} {ρ : Fr} {σ : St} {H : Hp} {ω : W3} {p : Addr} {o : HO} (j : J B Z ρ σ H ω) (ho : H p = some o) (hf : Fix o) (np : B.g.pd ≠ some p) (h0 : B.H0 p = none) (nr : ¬ B.Rz p) (hn : ∀ (i : Nat) (d : D), ρ[i]? = some (.own d) → σ[i]? ≠ some (some (.ref p))) :
    J B (fun q => Z q ∨ q = p) ρ σ H ω := by
  refine ⟨⟨fun q z => ?_, j.good.dice, j.good.tabs⟩, j.ext, fun q z => .inl (j.z0 q z), fun q z => ?_, j.len, fun k e ek => ?_, fun k e ek => ?_, fun q r => ⟨fun z => ?_, (j.res q r).2⟩, j.sep⟩
  · rcases z with z | rfl
    · exact j.good.zs q z
    · exact ⟨np, o, ho, hf⟩
  · rcases z with z | rfl
    · exact j.zn q z
    · exact .inr h0
  · obtain ⟨v, h1, h2⟩ := j.val k e ek
    exact ⟨v, h1, h2.mono (fun _ z => .inl z) fun _ _ _ h => h⟩
  · obtain ⟨q, h1, h2, h3, h4, h5, h6⟩ := j.own k e ek
    refine ⟨q, h1, h2.mono (fun _ z => .inl z) (fun _ _ _ h => h) fun _ h => h, fun z => ?_, h4, h5, h6⟩
    rcases z with z | rfl
    · exact h3 z
    · exact hn k e ek h1
  · rcases z with z | rfl
    · exact (j.res q r).1 z
    · exact nr r
theorem i_frz {f : EM (List D)} : ∀ σ H Q, RdE B (frz f) σ H Q → RdF B f σ H Q := fun σ H Q ⟨Z, ρ, ω, j, h⟩ => by
  refine ⟨Z, ρ, ω, j, ?_⟩
  unfold frz at h
  cases ea : f ρ ω with
  | bad => simp only [ea, Out.andThen] at h
  | exc c ω' => simp only [ea, Out.andThen] at h; exact h
  | ok ds ρ1 ω1 =>
    simp only [ea, Out.andThen] at h
    intro Z1 p vs H1 e1 z1 j1 hp r1 nz np h0 nr hn
    exact h _ _ H1 e1 (fun q z => .inl (z1 q z)) (j1.adopt hp fix_lst np h0 nr hn) (.obj (.inr rfl) (.lst hp (r1.mono (fun _ z => .inl z) fun _ _ _ h => h)))
theorem m_frz {f : EM (List D)} (h : PE X e (RdF B f)) : PE X e (RdE B (frz f)) := PE.imp h i_frz
/-- an operator that gives a new list -/
def SimF2 (g : Gd) (r : R2) (f : D → D → Option (List D)) : Prop := ∀ (Z : Addr → Prop) (H : Hp) (ω : W3) (x y : V) (a b : D) (ds : List D) (Q : VK), Good g Z H ω → BR g Z H a x → BR g Z H b y → f a b = some ds →
  (∀ p vs, H p = none → RDs g.tk Z H ds vs → Q (.ref p) (upd H p (.lst vs))) → r x y H Q
def SimF1 (g : Gd) (r : V → Hp → VK → Prop) (f : D → Option (List D)) : Prop := ∀ (Z : Addr → Prop) (H : Hp) (ω : W3) (x : V) (a : D) (ds : List D) (Q : VK), Good g Z H ω → BR g Z H a x → f a = some ds →
  (∀ p vs, H p = none → RDs g.tk Z H ds vs → Q (.ref p) (upd H p (.lst vs))) → r x H Q
def opF2 (f : D → D → Option (List D)) (a b : EM D) : EM (List D) := fun ρ ω => (a ρ ω).andThen fun x ρ ω => (b ρ ω).andThen fun y => optM (f x y)
def opF1 (f : D → Option (List D)) (a : EM D) : EM (List D) := fun ρ ω => (a ρ ω).andThen fun x => optM (f x)
theorem f_op2 {r : R2} {f : D → D → Option (List D)} {fa fb : EM D} (hs : SimF2 B.g r f) (hc : PE X e (fun σ H Q => RdB B fa σ H fun x H1 => RdB B fb σ H1 fun y H2 => r x y H2 Q)) : PE X e (RdF B (opF2 f fa fb)) := PE.imp hc fun σ H Q ⟨Z, ρ, ω, j, h⟩ => by
  refine ⟨Z, ρ, ω, j, ?_⟩
  unfold opF2 at h
  cases ea : fa ρ ω with
  | bad => simp only [ea, Out.andThen] at h
  | exc c ω' => simp only [ea, Out.andThen] at h; exact h
  | ok d ρ1 ω1 =>
    simp only [ea, Out.andThen, optM] at h
    intro Z1 x H1 e1 z1 j1 r1
    refine ⟨Z1, ρ1, ω1, j1, ?_⟩
    cases eb : fb ρ1 ω1 with
    | bad => simp only [eb] at h
    | exc c ω' => simp only [eb] at h; exact h
    | ok d2 ρ2 ω2 =>
      simp only [eb] at h
      intro Z2 y H2 e2 z2 j2 r2
      cases ef : f d d2 with
      | none => simp only [ef] at h
      | some u =>
        simp only [ef] at h
        refine hs Z2 H2 ω2 x y d d2 u Q j2.good (r1.ext j1.good z2 e2) r2 ef fun p vs hp rv => ?_
        obtain ⟨n1, n2, n3, n5, n4⟩ := fresh_of j2 hp
        have gr := grow_new0 (g := B.g) (Z := Z2) (o := .lst vs) hp
        exact h Z2 p vs _ (e1.trans (e2.trans gr.ext)) (fun p z => z2 p (z1 p z)) (j2.grow gr) upd_same (rv.grow gr) n1 n2 n3 n5 n4
theorem f_op1 {r : V → Hp → VK → Prop} {f : D → Option (List D)} {fa : EM D} (hs : SimF1 B.g r f) (hc : PE X e (fun σ H Q => RdB B fa σ H fun x H1 => r x H1 Q)) : PE X e (RdF B (opF1 f fa)) := PE.imp hc fun σ H Q ⟨Z, ρ, ω, j, h⟩ => by
  refine ⟨Z, ρ, ω, j, ?_⟩
  unfold opF1 at h
  cases ea : fa ρ ω with
  | bad => simp only [ea, Out.andThen] at h
  | exc c ω' => simp only [ea, Out.andThen] at h; exact h
  | ok d ρ1 ω1 =>
    simp only [ea, Out.andThen, optM] at h
    intro Z1 x H1 e1 z1 j1 r1
    cases ef : f d with
    | none => simp only [ef] at h
    | some u =>
      simp only [ef] at h
      refine hs Z1 H1 ω1 x d u Q j1.good r1 ef fun p vs hp rv => ?_
      obtain ⟨n1, n2, n3, n5, n4⟩ := fresh_of j1 hp
      have gr := grow_new0 (g := B.g) (Z := Z1) (o := .lst vs) hp
      exact h Z1 p vs _ (e1.trans gr.ext) z1 (j1.grow gr) upd_same (rv.grow gr) n1 n2 n3 n5 n4
end
end L2.Fl

namespace L2.Fl
open PySem PySem.Spec PyProof.Rows

/-! ### plain data as the kit's data -/
mutual
def pD : D → PyData
  | .non => .none
  | .bl b => .bool b
  | .int i => .int i
  | .str s => .str s
  | .tok _ => .none
  | .tup xs => .tuple (pDs xs)
  | .lst xs => .list (pDs xs)
  | .dct _ => .none
def pDs : List D → List PyData
  | [] => []
  | d :: ds => pD d :: pDs ds
end
mutual
def okD : D → Nat → Bool
  | .non, _ => true
  | .bl _, _ => true
  | .int _, _ => true
  | .str s, _ => SeqAt.shaped (.str s)
  | .tok _, _ => false
  | .dct _, _ => false
  | .tup xs, n => match n with
    | 0 => false
    | n + 1 => okDs xs n
  | .lst xs, n => match n with
    | 0 => false
    | n + 1 => okDs xs n
def okDs : List D → Nat → Bool
  | [], _ => true
  | d :: ds, n => okD d n && okDs ds n
end
mutual
/-- == of plain data -/
def eqd : D → D → Bool
  | .non, .non => true
  | .bl a, .bl b => a == b
  | .bl a, .int j => (if a then 1 else 0) == j
  | .int i, .bl b => i == (if b then 1 else 0)
  | .int i, .int j => i == j
  | .str x, .str y => x == y
  | .lst xs, .lst ys => eqds xs ys
  | .tup xs, .tup ys => eqds xs ys
  | _, _ => false
def eqds : List D → List D → Bool
  | [], [] => true
  | x :: xs, y :: ys => eqd x y && eqds xs ys
  | _, _ => false
end
mutual
theorem okD_canLay : ∀ (d : D) (n : Nat), okD d n = true → PyData.canLay0 (pD d) = true ∧ (pD d).depth ≤ n
  | .non, _, _ => ⟨rfl, Nat.zero_le _⟩
  | .bl _, _, _ => ⟨rfl, Nat.zero_le _⟩
  | .int _, _, _ => ⟨rfl, Nat.zero_le _⟩
  | .str s, _, h => ⟨SeqAt.canLay_of_shaped (d := .str s) h, Nat.zero_le _⟩
  | .tok _, _, h => by simp [okD] at h
  | .dct _, _, h => by simp [okD] at h
  | .tup xs, n, h => by
    cases n with
    | zero => simp [okD] at h
    | succ n =>
      simp only [okD] at h
      obtain ⟨h1, h2⟩ := okDs_canLay xs n h
      exact ⟨by simp only [pD, PyData.canLay0]; exact h1, by simp only [pD, PyData.depth]; omega⟩
  | .lst xs, n, h => by
    cases n with
    | zero => simp [okD] at h
    | succ n =>
      simp only [okD] at h
      obtain ⟨h1, h2⟩ := okDs_canLay xs n h
      exact ⟨by simp only [pD, PyData.canLay0]; exact h1, by simp only [pD, PyData.depth]; omega⟩
theorem okDs_canLay : ∀ (ds : List D) (n : Nat), okDs ds n = true → PyData.canLayAll0 (pDs ds) = true ∧ PyData.depthAll (pDs ds) ≤ n
  | [], _, _ => ⟨rfl, Nat.zero_le _⟩
  | d :: ds, n, h => by
    simp only [okDs, Bool.and_eq_true] at h
    obtain ⟨h1, h2⟩ := okD_canLay d n h.1
    obtain ⟨h3, h4⟩ := okDs_canLay ds n h.2
    exact ⟨by simp only [pDs, PyData.canLayAll0, h1, h3]; rfl, by simp only [pDs, PyData.depthAll]; omega⟩
end
theorem okD_shaped {d : D} {n : Nat} (h : okD d n = true) (hn : n ≤ 64) : SeqAt.shaped (pD d) = true := by
  obtain ⟨h1, h2⟩ := okD_canLay d n h
  unfold SeqAt.shaped
  rw [h1, Bool.true_and]
  exact decide_eq_true (by omega)
mutual
theorem eqd_eqv : ∀ (a b : D) (n m : Nat), okD a n = true → okD b m = true → PyData.eqv (pD a) (pD b) = eqd a b
  | a, b, n, m, ha, hb => by
    cases a <;> cases b <;> first
      | (simp [okD] at ha; done)
      | (simp [okD] at hb; done)
      | (simp only [pD, PyData.eqv, eqd]; done)
      | (rename_i xs ys
         cases n with
         | zero => simp [okD] at ha
         | succ n =>
           cases m with
           | zero => simp [okD] at hb
           | succ m =>
             simp only [okD] at ha hb
             simp only [pD, PyData.eqv, eqd]
             exact eqds_eqv xs ys n m ha hb)
theorem eqds_eqv : ∀ (a b : List D) (n m : Nat), okDs a n = true → okDs b m = true → PyData.eqvAll (pDs a) (pDs b) = eqds a b
  | [], [], _, _, _, _ => by simp only [pDs, PyData.eqvAll, eqds]
  | [], _ :: _, _, _, _, _ => by simp only [pDs, PyData.eqvAll, eqds]
  | _ :: _, [], _, _, _, _ => by simp only [pDs, PyData.eqvAll, eqds]
  | x :: xs, y :: ys, n, m, ha, hb => by
    simp only [okDs, Bool.and_eq_true] at ha hb
    simp only [pDs, PyData.eqvAll, eqds, eqd_eqv x y n m ha.1 hb.1, eqds_eqv xs ys n m ha.2 hb.2]
end
section
variable {K : PySem.W.Frag} {tk : Nat → Option V} {Z : Addr → Prop} {H : Hp}
mutual
theorem RD.dp : ∀ {d : D} {v : V} {n : Nat}, RD tk Z H d v → okD d n = true → Dp K H v (pD d)
  | _, _, _, .non, _ => .non
  | _, _, _, .bl b, _ => .bl b
  | _, _, _, .int b, _ => .int b
  | _, _, _, .str b, _ => .str b
  | _, _, _, .tok b, h => by simp [okD] at h
  | .tup ds, _, n, .tup z e r, h => by
    cases n with
    | zero => simp [okD] at h
    | succ n =>
      simp only [okD] at h
      simp only [pD]
      exact .tup (SqT.of e) (RDs.dp r h)
  | d, _, n, .obj z r, h => RO.dp r h
theorem RO.dp : ∀ {d : D} {p : Addr} {n : Nat}, RO tk Z H d p → okD d n = true → Dp K H (.ref p) (pD d)
  | .lst ds, _, n, .lst e r, h => by
    cases n with
    | zero => simp [okD] at h
    | succ n =>
      simp only [okD] at h
      simp only [pD]
      exact .lst (SqL.of e) (RDs.dp r h)
  | _, _, _, .dK _ _, h => by simp [okD] at h
  | _, _, _, .dT _ _, h => by simp [okD] at h
theorem RDs.dp : ∀ {ds : List D} {vs : List V} {n : Nat}, RDs tk Z H ds vs → okDs ds n = true → DpAll K H vs (pDs ds)
  | _, _, _, .nil, _ => .nil
  | _, _, n, .cons a b, h => by
    simp only [okDs, Bool.and_eq_true] at h
    simp only [pDs]
    exact .cons (RD.dp a h.1) (RDs.dp b h.2)
end
end
theorem BR.dp {K : PySem.W.Frag} {g : Gd} {Z : Addr → Prop} {H : Hp} {d : D} {v : V} {n : Nat} (r : BR g Z H d v) (h : okD d n = true) : Dp K H v (pD d) := by
  rcases r with r | ⟨p, rfl, _, r⟩
  · exact r.dp h
  · exact r.dp h

/-! ### operators -/
def eqD (a b : D) : Option D := if okD a 8 && okD b 8 then some (.bl (eqd a b)) else none
def neD (a b : D) : Option D := if okD a 8 && okD b 8 then some (.bl (!eqd a b)) else none
section
variable {g : Gd} {X : Cx} {K : PySem.W.Frag}
theorem sim_eq : Sim2 g (rEqD K) eqD := fun Z H ω x y a b d Q G ra rb h hq => by
  unfold eqD at h
  by_cases hk : (okD a 8 && okD b 8) = true
  · rw [if_pos hk] at h
    cases h
    have hk := Bool.and_eq_true_iff.mp hk
    exact ⟨pD a, pD b, ra.dp hk.1, rb.dp hk.2, okD_shaped hk.1 (by decide), okD_shaped hk.2 (by decide), by rw [eqd_eqv a b 8 8 hk.1 hk.2]; exact hq Z _ H .refl (.bl _)⟩
  · rw [if_neg hk] at h; cases h
theorem sim_ne : Sim2 g (rNeD K) neD := fun Z H ω x y a b d Q G ra rb h hq => by
  unfold neD at h
  by_cases hk : (okD a 8 && okD b 8) = true
  · rw [if_pos hk] at h
    cases h
    have hk := Bool.and_eq_true_iff.mp hk
    exact ⟨pD a, pD b, ra.dp hk.1, rb.dp hk.2, okD_shaped hk.1 (by decide), okD_shaped hk.2 (by decide), by rw [eqd_eqv a b 8 8 hk.1 hk.2]; exact hq Z _ H .refl (.bl _)⟩
  · rw [if_neg hk] at h; cases h

/-- x in xs, lists and tuples -/
def rInB (K : PySem.W.Frag) (neg : Bool) : R2 := fun x y H Q => ∃ d ds, Dp K H x d ∧ (Dp K H y (.list ds) ∨ Dp K H y (.tuple ds)) ∧ SeqAt.shaped d = true ∧ SeqAt.shaped (.list ds) = true ∧ Q (.bl (if neg then !ds.any fun z => PyData.eqv z d else ds.any fun z => PyData.eqv z d)) H
theorem op_inB (hu : X.A.units + 65 < cLine) : OpR X (compareOp .In) (rInB X.K false) := by
  intro pins s σ H x y v u Q I rx ry h
  obtain ⟨d, ds, hd, he, sd, se, q⟩ := h
  obtain ⟨as, r1⟩ := Dp.reads I d x v hd rx
  rcases he with he | he
  · obtain ⟨bs, r2⟩ := Dp.reads I (.list ds) y u he ry
    exact SeqAt.in_list_reads r2 r1 (SeqAt.canLay_of_shaped se) (SeqAt.canLay_of_shaped sd) (room_in_shaped sd hu) ⟨.bl _, H, I, rfl, q⟩
  · obtain ⟨bs, r2⟩ := Dp.reads I (.tuple ds) y u he ry
    exact SeqAt.in_tuple_reads r2 r1 (SeqAt.canLay_of_shaped (show SeqAt.shaped (.tuple ds) = true from se)) (SeqAt.canLay_of_shaped sd) (room_in_shaped sd hu) ⟨.bl _, H, I, rfl, q⟩
theorem op_notInB (hu : X.A.units + 65 < cLine) : OpR X (compareOp .NotIn) (rInB X.K true) := by
  intro pins s σ H x y v u Q I rx ry h
  obtain ⟨d, ds, hd, he, sd, se, q⟩ := h
  obtain ⟨as, r1⟩ := Dp.reads I d x v hd rx
  rcases he with he | he
  · obtain ⟨bs, r2⟩ := Dp.reads I (.list ds) y u he ry
    exact SeqAt.notIn_list_reads r2 r1 (SeqAt.canLay_of_shaped se) (SeqAt.canLay_of_shaped sd) (room_in_shaped sd hu) ⟨.bl _, H, I, rfl, q⟩
  · obtain ⟨bs, r2⟩ := Dp.reads I (.tuple ds) y u he ry
    exact SeqAt.notIn_tuple_reads r2 r1 (SeqAt.canLay_of_shaped (show SeqAt.shaped (.tuple ds) = true from se)) (SeqAt.canLay_of_shaped sd) (room_in_shaped sd hu) ⟨.bl _, H, I, rfl, q⟩
def items? : D → Option (List D)
  | .lst xs => some xs
  | .tup xs => some xs
  | _ => none
def inL (a : D) (xs : List D) : Bool := xs.any fun z => eqd z a
def inD (a b : D) : Option D := match items? b with
  | some xs => if okD a 8 && okDs xs 8 then some (.bl (inL a xs)) else none
  | none => none
def notInD (a b : D) : Option D := match items? b with
  | some xs => if okD a 8 && okDs xs 8 then some (.bl (!inL a xs)) else none
  | none => none
theorem any_eqd {a : D} {n : Nat} (ha : okD a n = true) : ∀ {xs : List D} {m : Nat}, okDs xs m = true → ((pDs xs).any fun z => PyData.eqv z (pD a)) = inL a xs
  | [], _, _ => rfl
  | x :: xs, m, h => by
    simp only [okDs, Bool.and_eq_true] at h
    have q := any_eqd ha (xs := xs) h.2
    unfold inL at q ⊢
    simp only [pDs, List.any_cons, q, eqd_eqv x a m n h.1 ha]
theorem shaped_items {xs : List D} (h : okDs xs 8 = true) : SeqAt.shaped (.list (pDs xs)) = true := okD_shaped (d := .lst xs) (n := 9) (by simp only [okD]; exact h) (by decide)
theorem items_dp {Z : Addr → Prop} {H : Hp} {b : D} {y : V} {xs : List D} (rb : BR g Z H b y) (e : items? b = some xs) (h : okDs xs 8 = true) : Dp K H y (.list (pDs xs)) ∨ Dp K H y (.tuple (pDs xs)) := by
  cases b with
  | lst ys => cases e; exact .inl (rb.dp (d := .lst xs) (n := 9) (by simp only [okD]; exact h))
  | tup ys => cases e; exact .inr (rb.dp (d := .tup xs) (n := 9) (by simp only [okD]; exact h))
  | _ => cases e
theorem sim_in : Sim2 g (rInB K false) inD := fun Z H ω x y a b d Q G ra rb h hq => by
  unfold inD at h
  cases e : items? b with
  | none => simp only [e] at h; cases h
  | some xs =>
    simp only [e] at h
    by_cases hk : (okD a 8 && okDs xs 8) = true
    · rw [if_pos hk] at h
      cases h
      have hk := Bool.and_eq_true_iff.mp hk
      exact ⟨pD a, pDs xs, ra.dp hk.1, items_dp rb e hk.2, okD_shaped hk.1 (by decide), shaped_items hk.2, by rw [any_eqd hk.1 hk.2]; exact hq Z _ H .refl (.bl _)⟩
    · rw [if_neg hk] at h; cases h
theorem sim_notIn : Sim2 g (rInB K true) notInD := fun Z H ω x y a b d Q G ra rb h hq => by
  unfold notInD at h
  cases e : items? b with
  | none => simp only [e] at h; cases h
  | some xs =>
    simp only [e] at h
    by_cases hk : (okD a 8 && okDs xs 8) = true
    · rw [if_pos hk] at h
      cases h
      have hk := Bool.and_eq_true_iff.mp hk
      exact ⟨pD a, pDs xs, ra.dp hk.1, items_dp rb e hk.2, okD_shaped hk.1 (by decide), shaped_items hk.2, by rw [any_eqd hk.1 hk.2]; exact hq Z _ H .refl (.bl _)⟩
    · rw [if_neg hk] at h; cases h

/-! whole numbers -/
def iB (p : Int → Int → Bool) (a b : D) : Option D := match a, b with
  | .int i, .int j => some (.bl (p i j))
  | _, _ => none
theorem sim_iB {p : Int → Int → Bool} : Sim2 g (rI0 fun i j => .bl (p i j)) (iB p) := fun Z H ω x y a b d Q G ra rb h hq => by
  cases a <;> cases b <;> first
    | (cases h; done)
    | (cases h; exact ⟨_, _, ra.int, rb.int, hq Z _ H .refl (.bl _)⟩)
def iI (p : Int → Int → Int) (a b : D) : Option D := match a, b with
  | .int i, .int j => some (.int (p i j))
  | _, _ => none
theorem sim_iI {p : Int → Int → Int} : Sim2 g (rI0 fun i j => .int (p i j)) (iI p) := fun Z H ω x y a b d Q G ra rb h hq => by
  cases a <;> cases b <;> first
    | (cases h; done)
    | (cases h; exact ⟨_, _, ra.int, rb.int, hq Z _ H .refl (.int _)⟩)
def iC (c : Int → Int → Bool) (p : Int → Int → Int) (a b : D) : Option D := match a, b with
  | .int i, .int j => if c i j then some (.int (p i j)) else none
  | _, _ => none
theorem sim_iC {C : Int → Int → Prop} {c : Int → Int → Bool} {p : Int → Int → Int} (hc : ∀ i j, c i j = true → C i j) : Sim2 g (rI C fun i j => .int (p i j)) (iC c p) := fun Z H ω x y a b d Q G ra rb h hq => by
  cases a <;> cases b <;> first
    | (simp only [iC] at h; cases h; done)
    | (rename_i i j
       simp only [iC] at h
       by_cases hk : c i j = true
       · rw [if_pos hk] at h
         cases h
         exact ⟨_, _, ra.int, rb.int, hc _ _ hk, hq Z _ H .refl (.int _)⟩
       · rw [if_neg hk] at h; cases h)
/-- a whole number within bounds (told so that an open number is not counted down) -/
def inBd (b : Nat) (i : Int) : Bool := match i with
  | .ofNat n => decide (n < b)
  | .negSucc n => decide (n < b)
theorem inBd_ok {b : Nat} {i : Int} (h : inBd b i = true) : -(b : Int) ≤ i ∧ i < b := by
  cases i with
  | ofNat n =>
    simp only [inBd, decide_eq_true_eq] at h
    have : (Int.ofNat n) = (n : Int) := rfl
    omega
  | negSucc n =>
    simp only [inBd, decide_eq_true_eq] at h
    omega
theorem inBd_of {b : Nat} {i : Int} (h1 : -(b : Int) ≤ i) (h2 : i < b) : inBd b i = true := by
  cases i with
  | ofNat n =>
    have : (Int.ofNat n) = (n : Int) := rfl
    simp only [inBd, decide_eq_true_eq]; omega
  | negSucc n => simp only [inBd, decide_eq_true_eq]; omega
def cMul (i j : Int) : Bool := inBd 18446744073709551615 i || inBd 18446744073709551615 j
theorem cMul_ok (i j : Int) (h : cMul i j = true) : CMul i j := by
  unfold cMul at h
  simp only [Bool.or_eq_true] at h
  rcases h with h | h
  · have := inBd_ok h; exact .inl ⟨by omega, by omega⟩
  · have := inBd_ok h; exact .inr ⟨by omega, by omega⟩
def cDiv (i j : Int) : Bool := decide (j ≠ 0) && decide (j.natAbs < 1073741824)
theorem cDiv_ok (i j : Int) (h : cDiv i j = true) : CDivN i j := by
  unfold cDiv at h
  simp only [Bool.and_eq_true, decide_eq_true_eq] at h
  exact h
def cMod (i j : Int) : Bool := decide (j ≠ 0)
def cPow (i j : Int) : Bool := decide (0 ≤ j) && decide (j ≤ 1000000) && decide (i.natAbs < 18446744073709551616)
theorem cPow_ok (i j : Int) (h : cPow i j = true) : CPow i j := by
  unfold cPow at h
  simp only [Bool.and_eq_true, decide_eq_true_eq] at h
  exact ⟨h.1.1, h.1.2, by have := h.2; omega⟩
def subD := iI fun i j => i - j
def mulD := iC cMul fun i j => i * j
def fdivD := iC cDiv fun i j => i.fdiv j
def modD := iC cMod fun i j => i.fmod j
def powD := iC cPow fun i j => i ^ j.toNat
def ltD := iB fun i j => decide (i < j)
def leD := iB fun i j => decide (i ≤ j)
def gtD := iB fun i j => decide (j < i)
def geD := iB fun i j => decide (j ≤ i)
theorem sim_sub : Sim2 g (rI0 fun i j => .int (i - j)) subD := sim_iI
theorem sim_mul : Sim2 g (rI CMul fun i j => .int (i * j)) mulD := sim_iC cMul_ok
theorem sim_fdiv : Sim2 g (rI CDivN fun i j => .int (i.fdiv j)) fdivD := sim_iC cDiv_ok
theorem sim_mod : Sim2 g (rI (fun _ j => j ≠ 0) fun i j => .int (i.fmod j)) modD := sim_iC fun i j h => of_decide_eq_true h
theorem sim_pow : Sim2 g (rI CPow fun i j => .int (i ^ j.toNat)) powD := sim_iC cPow_ok
theorem sim_lt : Sim2 g (rI0 fun i j => .bl (decide (i < j))) ltD := sim_iB
theorem sim_le : Sim2 g (rI0 fun i j => .bl (decide (i ≤ j))) leD := sim_iB
theorem sim_gt : Sim2 g (rI0 fun i j => .bl (decide (j < i))) gtD := sim_iB
theorem sim_ge : Sim2 g (rI0 fun i j => .bl (decide (j ≤ i))) geD := sim_iB
/-- a + b: whole numbers, tuples, lists -/
def rAddA (K : PySem.W.Frag) : R2 := fun x y H Q => rI0 (fun i j => .int (i + j)) x y H Q ∨ (rCatA K x y H Q ∨ rCat x y H Q)
theorem op_addA : OpR X (binaryOp .Add) (rAddA X.K) := op_add.or (op_catA.or op_cat)
def addD (a b : D) : Option D := match a, b with
  | .int i, .int j => some (.int (i + j))
  | .tup xs, .tup ys => if xs.length + ys.length ≤ LIM then some (.tup (xs ++ ys)) else none
  | .lst xs, .lst ys => if xs.length + ys.length ≤ LIM then some (.lst (xs ++ ys)) else none
  | _, _ => none
theorem RDs.nil_iff {tk : Nat → Option V} {Z : Addr → Prop} {H : Hp} {ds : List D} {vs : List V} (r : RDs tk Z H ds vs) : vs = [] ↔ ds = [] := by
  cases r with
  | nil => exact ⟨fun _ => rfl, fun _ => rfl⟩
  | cons _ _ => exact ⟨fun h => (by cases h), fun h => (by cases h)⟩
theorem sim_add : Sim2 g (rAddA K) addD := fun Z H ω x y a b d Q G ra rb h hq => by
  cases a <;> cases b <;> first
    | (simp only [addD] at h; cases h; done)
    | (simp only [addD] at h; cases h; exact .inl ⟨_, _, ra.int, rb.int, hq Z _ H .refl (.int _)⟩)
    | skip
  · rename_i xs ys
    simp only [addD] at h
    by_cases hl : xs.length + ys.length ≤ LIM
    · rw [if_pos hl] at h
      cases h
      obtain ⟨p, vs, rfl, zp, hp, r1⟩ := ra.tup
      obtain ⟨q, ws, rfl, zq, hq', r2⟩ := rb.tup
      refine .inr (.inl ⟨p, q, vs, ws, rfl, rfl, SqT.of hp, SqT.of hq', by rw [← r1.length, ← r2.length, ← lim_eq]; exact hl, fun e => ?_, fun e1 e2 => ?_, fun _ _ l hl => ?_⟩)
      · have := r1.nil_iff.mp e
        subst this
        exact hq Z _ H .refl (.tup zq hq' r2)
      · have := r2.nil_iff.mp e2
        subst this
        rw [List.append_nil] at hq
        exact hq Z _ H .refl (.tup zp hp r1)
      · exact hq _ _ _ (grow_new hl fix_tup) (rd_newT hl (r1.append r2))
    · rw [if_neg hl] at h; cases h
  · rename_i xs ys
    simp only [addD] at h
    by_cases hl : xs.length + ys.length ≤ LIM
    · rw [if_pos hl] at h
      cases h
      obtain ⟨p, vs, rfl, hp, r1⟩ := ra.lst
      obtain ⟨q, ws, rfl, hq', r2⟩ := rb.lst
      exact .inr (.inr ⟨p, q, vs, ws, rfl, rfl, hp, hq', by rw [← r1.length, ← r2.length, ← lim_eq]; exact hl, fun l hl => hq _ _ _ (grow_new hl fix_lst) (rd_newL hl (r1.append r2))⟩)
    · rw [if_neg hl] at h; cases h
def catF (a b : D) : Option (List D) := match a, b with
  | .lst xs, .lst ys => if xs.length + ys.length ≤ LIM then some (xs ++ ys) else none
  | _, _ => none
theorem simF_cat : SimF2 g rCat catF := fun Z H ω x y a b ds Q G ra rb h hq => by
  cases a <;> cases b <;> first
    | (simp only [catF] at h; cases h; done)
    | skip
  rename_i xs ys
  simp only [catF] at h
  by_cases hl : xs.length + ys.length ≤ LIM
  · rw [if_pos hl] at h
    cases h
    obtain ⟨p, vs, rfl, hp, r1⟩ := ra.lst
    obtain ⟨q, ws, rfl, hq', r2⟩ := rb.lst
    exact ⟨p, q, vs, ws, rfl, rfl, hp, hq', by rw [← r1.length, ← r2.length, ← lim_eq]; exact hl, fun l hl => hq l _ hl (r1.append r2)⟩
  · rw [if_neg hl] at h; cases h
/-- xs * n -/
def repF (a b : D) : Option (List D) := match a, b with
  | .lst xs, .int k => if decide (k < 9223372036854775808) && decide (-9223372036854775808 ≤ k) && decide (xs.length * k.toNat ≤ LIM) then some (List.replicate k.toNat xs).flatten else none
  | _, _ => none
theorem RDs.rep {tk : Nat → Option V} {Z : Addr → Prop} {H : Hp} {ds : List D} {vs : List V} (r : RDs tk Z H ds vs) : ∀ k : Nat, RDs tk Z H (List.replicate k ds).flatten (List.replicate k vs).flatten
  | 0 => .nil
  | k + 1 => by
    rw [List.replicate_succ, List.replicate_succ, List.flatten_cons, List.flatten_cons]
    exact r.append (RDs.rep r k)
theorem simF_rep : SimF2 g rRep repF := fun Z H ω x y a b ds Q G ra rb h hq => by
  cases a <;> cases b <;> first
    | (simp only [repF] at h; cases h; done)
    | skip
  rename_i xs k
  simp only [repF] at h
  by_cases hl : (decide (k < 9223372036854775808) && decide (-9223372036854775808 ≤ k) && decide (xs.length * k.toNat ≤ LIM)) = true
  · rw [if_pos hl] at h
    cases h
    simp only [Bool.and_eq_true, decide_eq_true_eq] at hl
    obtain ⟨p, vs, rfl, hp, r1⟩ := ra.lst
    exact ⟨p, k, vs, rfl, rb.int, hp, by omega, by omega, by rw [← r1.length, ← lim_eq]; exact hl.2, fun l hl => hq l _ hl (r1.rep _)⟩
  · rw [if_neg hl] at h; cases h

/-! unary, built-ins of one thing -/
def negD (a : D) : Option D := match a with
  | .int i => some (.int (-i))
  | _ => none
theorem sim_neg : Sim1 g (rU fun i => .int (-i)) negD := fun Z H ω x a d Q G ra h hq => by
  cases a <;> first
    | (cases h; done)
    | (cases h; exact ⟨_, ra.int, hq Z _ H .refl (.int _)⟩)
def isN (a : D) : Option D := match a with
  | .non => some (.bl true)
  | .tok _ => none
  | _ => some (.bl false)
theorem RD.non_inv {tk : Nat → Option V} {Z : Addr → Prop} {H : Hp} : ∀ {d : D} {v : V}, RD tk Z H d v → v = .non → d = .non ∨ ∃ n, d = .tok n
  | _, _, .non, _ => .inl rfl
  | _, _, .tok n, _ => .inr ⟨_, rfl⟩
  | _, _, .bl _, h => nomatch h
  | _, _, .int _, h => nomatch h
  | _, _, .str _, h => nomatch h
  | _, _, .tup _ _ _, h => nomatch h
  | _, _, .obj _ _, h => nomatch h
theorem BR.nn {Z : Addr → Prop} {H : Hp} {a : D} {x : V} (r : BR g Z H a x) (h : a ≠ .non) (ht : ∀ n, a ≠ .tok n) : decide (x = .non) = false := by
  refine decide_eq_false fun e => ?_
  rcases r with r | ⟨p, e', _⟩
  · rcases r.non_inv e with z | ⟨n, z⟩
    · exact h z
    · exact ht n z
  · rw [e] at e'; cases e'
def rIsN : R2 := fun x y H Q => y = .non ∧ Q (.bl (decide (x = .non))) H
def rNotN : R2 := fun x y H Q => y = .non ∧ Q (.bl (!decide (x = .non))) H
def isN2 (a b : D) : Option D := match b with
  | .non => isN a
  | _ => none
def notN2 (a b : D) : Option D := match b, a with
  | .non, .non => some (.bl false)
  | .non, .tok _ => none
  | .non, _ => some (.bl true)
  | _, _ => none
theorem sim_isN : Sim2 g rIsN isN2 := fun Z H ω x y a b d Q G ra rb h hq => by
  cases b <;> first
    | (simp only [isN2] at h; cases h; done)
    | skip
  refine ⟨rb.non, ?_⟩
  cases a <;> first
    | (simp only [isN2, isN] at h; cases h; done)
    | (simp only [isN2, isN] at h; cases h; rw [ra.non]; exact hq Z _ H .refl (.bl _))
    | (simp only [isN2, isN] at h; cases h; rw [ra.nn (by intro z; cases z) (by intro n z; cases z)]; exact hq Z _ H .refl (.bl _))
theorem sim_notN : Sim2 g rNotN notN2 := fun Z H ω x y a b d Q G ra rb h hq => by
  cases b <;> first
    | (simp only [notN2] at h; cases h; done)
    | skip
  refine ⟨rb.non, ?_⟩
  cases a <;> first
    | (simp only [notN2] at h; cases h; done)
    | (simp only [notN2] at h; cases h; rw [ra.non]; exact hq Z _ H .refl (.bl _))
    | (simp only [notN2] at h; cases h; rw [ra.nn (by intro z; cases z) (by intro n z; cases z)]; exact hq Z _ H .refl (.bl _))
def r1c (r : List V → Hp → VK → Prop) : V → Hp → VK → Prop := fun x H Q => r [x] H Q
def r2c (r : List V → Hp → VK → Prop) : R2 := fun x y H Q => r [x, y] H Q
def absD (a : D) : Option D := match a with
  | .int i => some (.int (if i < 0 then -i else i))
  | _ => none
theorem sim_abs : Sim1 g (r1c fun xs H Q => ∃ i, xs = [.int i] ∧ Q (.int (if i < 0 then -i else i)) H) absD := fun Z H ω x a d Q G ra h hq => by
  cases a <;> first
    | (cases h; done)
    | (cases h; exact ⟨_, by rw [ra.int], hq Z _ H .refl (.int _)⟩)
def intD (a : D) : Option D := match a with
  | .int i => some (.int i)
  | .bl k => some (.int (if k then 1 else 0))
  | _ => none
theorem sim_int : Sim1 g (r1c fun xs H Q => (∃ i, xs = [.int i] ∧ Q (.int i) H) ∨ ∃ k, xs = [.bl k] ∧ Q (.int (if k then 1 else 0)) H) intD := fun Z H ω x a d Q G ra h hq => by
  cases a <;> first
    | (cases h; done)
    | (cases h; exact .inl ⟨_, by rw [ra.int], hq Z _ H .refl (.int _)⟩)
    | (cases h; exact .inr ⟨_, by rw [ra.bl], hq Z _ H .refl (.int _)⟩)
def max2D := iI fun i j => if j > i then j else i
def min2D := iI fun i j => if j < i then j else i
theorem sim_max2 : Sim2 g (r2c fun xs H Q => ∃ i j, xs = [.int i, .int j] ∧ Q (.int (if j > i then j else i)) H) max2D := fun Z H ω x y a b d Q G ra rb h hq => by
  cases a <;> cases b <;> first
    | (cases h; done)
    | (cases h; exact ⟨_, _, by rw [ra.int, rb.int], hq Z _ H .refl (.int _)⟩)
theorem sim_min2 : Sim2 g (r2c fun xs H Q => ∃ i j, xs = [.int i, .int j] ∧ Q (.int (if j < i then j else i)) H) min2D := fun Z H ω x y a b d Q G ra rb h hq => by
  cases a <;> cases b <;> first
    | (cases h; done)
    | (cases h; exact ⟨_, _, by rw [ra.int, rb.int], hq Z _ H .refl (.int _)⟩)
def lenD (a : D) : Option D := match items? a with
  | some xs => some (.int xs.length)
  | none => none
theorem items_br {Z : Addr → Prop} {H : Hp} {a : D} {x : V} {xs : List D} (r : BR g Z H a x) (e : items? a = some xs) : ∃ p vs, x = .ref p ∧ (SqL K H p vs ∨ SqT K H p vs) ∧ RDs g.tk Z H xs vs := by
  cases a <;> first
    | (cases e; done)
    | skip
  · cases e
    obtain ⟨p, vs, rfl, zp, hp, r1⟩ := r.tup
    exact ⟨p, vs, rfl, .inr (SqT.of hp), r1⟩
  · cases e
    obtain ⟨p, vs, rfl, hp, r1⟩ := r.lst
    exact ⟨p, vs, rfl, .inl (SqL.of hp), r1⟩
theorem sim_len : Sim1 g (r1c fun xs H Q => ∃ p ys, xs = [.ref p] ∧ (SqL K H p ys ∨ SqT K H p ys) ∧ Q (.int ys.length) H) lenD := fun Z H ω x a d Q G ra h hq => by
  unfold lenD at h
  cases e : items? a with
  | none => rw [e] at h; cases h
  | some xs =>
    rw [e] at h; cases h
    obtain ⟨p, vs, rfl, hs, r⟩ := items_br (K := K) ra e
    exact ⟨p, vs, rfl, hs, by rw [← r.length]; exact hq Z _ H .refl (.int _)⟩
/-- xs[i] -/
def ixD (a b : D) : Option D := match items? a, b with
  | some xs, .int i => atI xs i
  | _, _ => none
theorem atI_rd {tk : Nat → Option V} {Z : Addr → Prop} {H : Hp} {ds : List D} {vs : List V} {i : Int} {d : D} (r : RDs tk Z H ds vs) (h : atI ds i = some d) : ∃ v, atI vs i = some v ∧ RD tk Z H d v := by
  unfold atI at h ⊢
  rw [← r.length]
  cases e : ixN ds.length i with
  | none => rw [e] at h; cases h
  | some j =>
    rw [e] at h
    obtain ⟨v, h1, h2⟩ := r.get (show ds[j]? = some d from h)
    exact ⟨v, h1, h2⟩
def rIxA (K : PySem.W.Frag) : R2 := fun x y H Q => rIxL K x y H Q ∨ rIxT K x y H Q
theorem ix_A : IxR X (rIxA X.K) := ix_list.or ix_tup
theorem sim_ix : Sim2 g (rIxA K) ixD := fun Z H ω x y a b d Q G ra rb h hq => by
  unfold ixD at h
  cases e : items? a with
  | none => rw [e] at h; cases h
  | some xs =>
    rw [e] at h
    cases b <;> first
      | (cases h; done)
      | skip
    obtain ⟨p, vs, rfl, hs, r⟩ := items_br (K := K) ra e
    obtain ⟨v, h1, h2⟩ := atI_rd r h
    rcases hs with hs | hs
    · exact .inl ⟨p, vs, _, v, rfl, rb.int, hs, h1, hq Z _ H .refl h2⟩
    · exact .inr ⟨p, vs, _, v, rfl, rb.int, hs, h1, hq Z _ H .refl h2⟩
/-- tuple(xs), list(xs) -/
def tupOf (a : D) : Option D := match items? a with
  | some xs => some (.tup xs)
  | none => none
theorem sim_tupOf : Sim1 g (r1c fun xs H Q => ∃ p ys, xs = [.ref p] ∧ ((SqL K H p ys ∧ ∀ l, H l = none → Q (.ref l) (upd H l (.tup ys))) ∨ (SqT K H p ys ∧ Q (.ref p) H))) tupOf := fun Z H ω x a d Q G ra h hq => by
  cases a <;> first
    | (simp only [tupOf, items?] at h; cases h; done)
    | skip
  · simp only [tupOf, items?] at h; cases h
    obtain ⟨p, vs, rfl, zp, hp, r1⟩ := ra.tup
    exact ⟨p, vs, rfl, .inr ⟨SqT.of hp, hq Z _ H .refl (.tup zp hp r1)⟩⟩
  · simp only [tupOf, items?] at h; cases h
    obtain ⟨p, vs, rfl, hp, r1⟩ := ra.lst
    exact ⟨p, vs, rfl, .inl ⟨SqL.of hp, fun l hl => hq _ _ _ (grow_new hl fix_tup) (rd_newT hl r1)⟩⟩
theorem simF_listOf : SimF1 g (r1c fun xs H Q => ∃ p ys, xs = [.ref p] ∧ (SqL K H p ys ∨ SqT K H p ys) ∧ ∀ l, H l = none → Q (.ref l) (upd H l (.lst ys))) items? := fun Z H ω x a ds Q G ra h hq => by
  obtain ⟨p, vs, rfl, hs, r⟩ := items_br (K := K) ra h
  exact ⟨p, vs, rfl, hs, fun l hl => hq l _ hl r⟩
/-- sum(xs) -/
def ints? : List D → Option (List Int)
  | [] => some []
  | .int i :: r => (ints? r).map (i :: ·)
  | _ :: _ => none
theorem ints_of : ∀ {ds : List D} {is : List Int}, ints? ds = some is → ds = is.map D.int
  | [], is, h => by cases h; rfl
  | .int i :: r, is, h => by
    simp only [ints?] at h
    cases e : ints? r with
    | none => rw [e] at h; cases h
    | some js => rw [e] at h; cases h; rw [ints_of e]; rfl
  | .non :: r, _, h => by cases h
  | .bl _ :: r, _, h => by cases h
  | .str _ :: r, _, h => by cases h
  | .tok _ :: r, _, h => by cases h
  | .tup _ :: r, _, h => by cases h
  | .lst _ :: r, _, h => by cases h
  | .dct _ :: r, _, h => by cases h
def sumD (a : D) : Option D := match a with
  | .lst xs => match ints? xs with
    | some is => some (.int is.sum)
    | none => none
  | _ => none
theorem sim_sum : Sim1 g (r1c (rSum K)) sumD := fun Z H ω x a d Q G ra h hq => by
  cases a <;> first
    | (simp only [sumD] at h; cases h; done)
    | skip
  rename_i xs
  simp only [sumD] at h
  cases e : ints? xs with
  | none => rw [e] at h; cases h
  | some is =>
    rw [e] at h; cases h
    obtain ⟨p, vs, rfl, hp, r1⟩ := ra.lst
    have := ints_of e
    subst this
    rcases r1.ints with e | e
    · subst e
      exact ⟨p, is, rfl, SqL.of hp, hq Z _ H .refl (.int _)⟩
    · exact e.elim
end
end L2.Fl

namespace L2.Fl
open PySem PySem.Spec PyProof.Rows

/-! ### statements -/
/-- what was frozen is so, and as it was -/
structure Kp (Z : Addr → Prop) (H : Hp) (Z' : Addr → Prop) (H' : Hp) : Prop where
  sub : ∀ p, Z p → Z' p
  keep : ∀ p o, Z p → H p = some o → H' p = some o
theorem Kp.refl {Z : Addr → Prop} {H : Hp} : Kp Z H Z H := ⟨fun _ z => z, fun _ _ _ h => h⟩
theorem Kp.trans {Z Z1 Z2 : Addr → Prop} {H H1 H2 : Hp} (a : Kp Z H Z1 H1) (b : Kp Z1 H1 Z2 H2) : Kp Z H Z2 H2 := ⟨fun p z => b.sub p (a.sub p z), fun p o z h => b.keep p o (a.sub p z) (a.keep p o z h)⟩
theorem Kp.of {g : Gd} {Z Z' : Addr → Prop} {H H' : Hp} {ω : W3} (k : Good g Z H ω) (zz : ∀ p, Z p → Z' p) (e : Ext g H H') : Kp Z H Z' H' := ⟨zz, k.kept e⟩
theorem RD.kp {tk : Nat → Option V} {Z Z' : Addr → Prop} {H H' : Hp} (k : Kp Z H Z' H') {d : D} {v : V} (r : RD tk Z H d v) : RD tk Z' H' d v := r.mono k.sub k.keep
theorem RDs.kp {tk : Nat → Option V} {Z Z' : Addr → Prop} {H H' : Hp} (k : Kp Z H Z' H') {d : List D} {v : List V} (r : RDs tk Z H d v) : RDs tk Z' H' d v := r.mono k.sub k.keep
def Post (B : Bc) (D : Ends) (Z : Addr → Prop) (H : Hp) (o : SO) : Prop := match o with
  | .nx ρ ω => ∀ (Z' : Addr → Prop) (σ' : St) (H' : Hp), Kp Z H Z' H' → J B Z' ρ σ' H' ω → D.nx σ' H'
  | .rt d ω => ∀ (Z' : Addr → Prop) (ρ : Fr) (σ' : St) (v : V) (H' : Hp), J B Z' ρ σ' H' ω → RD B.g.tk Z' H' d v → D.rt v H'
  | .bk ρ ω => ∀ (Z' : Addr → Prop) (σ' : St) (H' : Hp), Kp Z H Z' H' → J B Z' ρ σ' H' ω → D.bk σ' H'
  | .ct ρ ω => ∀ (Z' : Addr → Prop) (σ' : St) (H' : Hp), Kp Z H Z' H' → J B Z' ρ σ' H' ω → D.ct σ' H'
  | .exc c ω => B.Ex c ω
  | .bad => False
theorem Post.kp {B : Bc} {D : Ends} {Z Z' : Addr → Prop} {H H' : Hp} {o : SO} (k : Kp Z H Z' H') (q : Post B D Z H o) : Post B D Z' H' o := by
  cases o with
  | nx ρ ω => exact fun Z2 σ2 H2 k2 j => q Z2 σ2 H2 (k.trans k2) j
  | bk ρ ω => exact fun Z2 σ2 H2 k2 j => q Z2 σ2 H2 (k.trans k2) j
  | ct ρ ω => exact fun Z2 σ2 H2 k2 j => q Z2 σ2 H2 (k.trans k2) j
  | rt d ω => exact q
  | exc c ω => exact q
  | bad => exact q
def RdS (B : Bc) (s : SM) : TS := fun D σ H => ∃ Z ρ ω, J B Z ρ σ H ω ∧ Post B D Z H (s ρ ω)
def SO.andThen (o : SO) (k : SM) : SO := match o with
  | .nx ρ ω => k ρ ω
  | o => o
def seqS (s t : SM) : SM := fun ρ ω => (s ρ ω).andThen t
def skipS : SM := fun ρ ω => .nx ρ ω
def Out.stm {α : Type} (o : Out α) (k : α → Fr → W3 → SO) : SO := match o with
  | .ok a ρ ω => k a ρ ω
  | .exc c ω => .exc c ω
  | .bad => .bad
section
variable {X : Cx} {B : Bc} {e a b c : Expr} {pos : Pos} {st : Stmt} {rest body orelse : List Stmt}
theorem s_nil : PSs X [] (RdS B skipS) := PSs.imp pss_nil fun D σ H ⟨Z, ρ, ω, j, q⟩ => q Z σ H .refl j
theorem s_cons {s t : SM} (h1 : PS X st (RdS B s)) (h2 : PSs X rest (RdS B t)) : PSs X (st :: rest) (RdS B (seqS s t)) := PSs.imp (pss_cons h1 h2) fun D σ H ⟨Z, ρ, ω, j, q⟩ => by
  refine ⟨Z, ρ, ω, j, ?_⟩
  unfold seqS at q
  cases es : s ρ ω with
  | nx ρ' ω' =>
    simp only [es, SO.andThen] at q
    exact fun Z' σ' H' k' j' => ⟨Z', ρ', ω', j', q.kp k'⟩
  | rt d ω' => simp only [es, SO.andThen] at q; exact q
  | bk ρ' ω' => simp only [es, SO.andThen] at q; exact q
  | ct ρ' ω' => simp only [es, SO.andThen] at q; exact q
  | exc c ω' => simp only [es, SO.andThen] at q; exact q
  | bad => simp only [es, SO.andThen] at q; exact q
theorem s_one {s : SM} (h1 : PS X st (RdS B s)) : PSs X [st] (RdS B s) := pss_one h1
def bkS : SM := fun ρ ω => .bk ρ ω
def ctS : SM := fun ρ ω => .ct ρ ω
theorem s_pass : PS X (.Pass pos) (RdS B skipS) := PS.imp ps_pass fun D σ H ⟨Z, ρ, ω, j, q⟩ => q Z σ H .refl j
theorem s_break : PS X (.Break pos) (RdS B bkS) := PS.imp ps_break fun D σ H ⟨Z, ρ, ω, j, q⟩ => q Z σ H .refl j
theorem s_continue : PS X (.Continue pos) (RdS B ctS) := PS.imp ps_continue fun D σ H ⟨Z, ρ, ω, j, q⟩ => q Z σ H .refl j
def exS (f : EM D) : SM := fun ρ ω => (f ρ ω).stm fun _ ρ ω => .nx ρ ω
theorem s_expr {f : EM D} (he : PE X e (RdE B f)) (hs : swapsWith e none pos.line X.env = pure false := by rfl) : PS X (.Expr e pos) (RdS B (exS f)) := PS.imp (ps_expr he hs) fun D σ H ⟨Z, ρ, ω, j, q⟩ => by
  refine ⟨Z, ρ, ω, j, ?_⟩
  unfold exS at q
  cases ea : f ρ ω with
  | bad => simp only [ea, Out.stm] at q; exact q
  | exc c ω' => simp only [ea, Out.stm] at q; exact q
  | ok d ρ1 ω1 =>
    simp only [ea, Out.stm] at q
    exact fun Z1 v H1 e1 z1 j1 r1 => q Z1 σ H1 (.of j.good z1 e1) j1
def rtS (f : EM D) : SM := fun ρ ω => (f ρ ω).stm fun d _ ω => .rt d ω
theorem s_ret {f : EM D} (he : PE X e (RdE B f)) : PS X (.Return (some e) pos) (RdS B (rtS f)) := PS.imp (ps_ret he) fun D σ H ⟨Z, ρ, ω, j, q⟩ => by
  refine ⟨Z, ρ, ω, j, ?_⟩
  unfold rtS at q
  cases ea : f ρ ω with
  | bad => simp only [ea, Out.stm] at q; exact q
  | exc c ω' => simp only [ea, Out.stm] at q; exact q
  | ok d ρ1 ω1 =>
    simp only [ea, Out.stm] at q
    exact fun Z1 v H1 e1 z1 j1 r1 => q Z1 ρ1 σ v H1 j1 r1
def ifS (t : EM Bool) (s u : SM) : SM := fun ρ ω => (t ρ ω).stm fun b ρ ω => match b with
  | true => s ρ ω
  | false => u ρ ω
theorem s_if {t : EM Bool} {s u : SM} (hc : PT X c (RdT B t)) (ha : PSs X body (RdS B s)) (hb : PSs X orelse (RdS B u)) : PS X (.If c body orelse pos) (RdS B (ifS t s u)) := PS.imp (ps_if hc ha hb) fun D σ H ⟨Z, ρ, ω, j, q⟩ => by
  refine ⟨Z, ρ, ω, j, ?_⟩
  unfold ifS at q
  cases ea : t ρ ω with
  | bad => simp only [ea, Out.stm] at q; exact q
  | exc c ω' => simp only [ea, Out.stm] at q; exact q
  | ok k ρ1 ω1 =>
    simp only [ea, Out.stm] at q
    intro Z1 H1 e1 z1 j1
    cases k with
    | true => simp only at q; simp only [if_true]; exact ⟨Z1, ρ1, ω1, j1, q.kp (.of j.good z1 e1)⟩
    | false => simp only at q; simp only [Bool.false_eq_true, if_false]; exact ⟨Z1, ρ1, ω1, j1, q.kp (.of j.good z1 e1)⟩

/-! names stored -/
theorem J.setVal {Z : Addr → Prop} {ρ : Fr} {σ : St} {H : Hp} {ω : W3} {i : Nat} {d : D} {v : V} (j : J B Z ρ σ H ω) (r : RD B.g.tk Z H d v) : J B Z (ρ.set i (.val d)) (σ.set i (some v)) H ω := by
  refine ⟨j.good, j.ext, j.z0, j.zn, by simp [j.len], fun k e ek => ?_, fun k e ek => ?_, j.res, fun k l e f q ek el hk hl => ?_⟩
  · by_cases hk : i = k
    · subst hk
      have hi : i < ρ.length := by
        have := (List.getElem?_eq_some_iff.mp ek).1
        simpa using this
      rw [List.getElem?_set_self hi] at ek
      cases ek
      rw [List.getElem?_set_self (by rw [← j.len]; exact hi)]
      exact ⟨v, rfl, r⟩
    · rw [List.getElem?_set_ne hk] at ek
      rw [List.getElem?_set_ne hk]
      exact j.val k e ek
  · by_cases hk : i = k
    · subst hk
      have hi : i < ρ.length := by
        have := (List.getElem?_eq_some_iff.mp ek).1
        simpa using this
      rw [List.getElem?_set_self hi] at ek
      cases ek
    · rw [List.getElem?_set_ne hk] at ek
      rw [List.getElem?_set_ne hk]
      exact j.own k e ek
  · by_cases hki : i = k
    · subst hki
      have hi : i < ρ.length := by
        have := (List.getElem?_eq_some_iff.mp ek).1
        simpa using this
      rw [List.getElem?_set_self hi] at ek
      cases ek
    · by_cases hli : i = l
      · subst hli
        have hi : i < ρ.length := by
          have := (List.getElem?_eq_some_iff.mp el).1
          simpa using this
        rw [List.getElem?_set_self hi] at el
        cases el
      · rw [List.getElem?_set_ne hki] at ek hk
        rw [List.getElem?_set_ne hli] at el hl
        exact j.sep k l e f q ek el hk hl
theorem J.setOwn {Z : Addr → Prop} {ρ : Fr} {σ : St} {H : Hp} {ω : W3} {i : Nat} {d : D} {p : Addr} (j : J B Z ρ σ H ω) (r : RO B.g.tk Z H d p) (nz : ¬ Z p) (np : B.g.pd ≠ some p) (h0 : B.H0 p = none) (nr : ¬ B.Rz p)
    (hn : ∀ (k : Nat) (e : D), ρ[k]? = some (.own e) → σ[k]? ≠ some (some (.ref p))) : J B Z (ρ.set i (.own d)) (σ.set i (some (.ref p))) H ω := by
  refine ⟨j.good, j.ext, j.z0, j.zn, by simp [j.len], fun k e ek => ?_, fun k e ek => ?_, j.res, fun k l e f q ek el hk hl => ?_⟩
  · by_cases hk : i = k
    · subst hk
      have hi : i < ρ.length := by
        have := (List.getElem?_eq_some_iff.mp ek).1
        simpa using this
      rw [List.getElem?_set_self hi] at ek
      cases ek
    · rw [List.getElem?_set_ne hk] at ek
      rw [List.getElem?_set_ne hk]
      exact j.val k e ek
  · by_cases hk : i = k
    · subst hk
      have hi : i < ρ.length := by
        have := (List.getElem?_eq_some_iff.mp ek).1
        simpa using this
      rw [List.getElem?_set_self hi] at ek
      cases ek
      rw [List.getElem?_set_self (by rw [← j.len]; exact hi)]
      exact ⟨p, rfl, r, nz, np, h0, nr⟩
    · rw [List.getElem?_set_ne hk] at ek
      rw [List.getElem?_set_ne hk]
      exact j.own k e ek
  · by_cases hki : i = k
    · subst hki
      have hi : i < ρ.length := by
        have := (List.getElem?_eq_some_iff.mp ek).1
        simpa using this
      by_cases hli : i = l
      · exact hli
      · rw [List.getElem?_set_self (by rw [← j.len]; exact hi)] at hk
        cases hk
        rw [List.getElem?_set_ne hli] at el hl
        exact absurd hl (hn l f el)
    · by_cases hli : i = l
      · subst hli
        have hi : i < ρ.length := by
          have := (List.getElem?_eq_some_iff.mp el).1
          simpa using this
        rw [List.getElem?_set_self (by rw [← j.len]; exact hi)] at hl
        cases hl
        rw [List.getElem?_set_ne hki] at ek hk
        exact absurd hk (hn k e ek)
      · rw [List.getElem?_set_ne hki] at ek hk
        rw [List.getElem?_set_ne hli] at el hl
        exact j.sep k l e f q ek el hk hl
/-- one's own thing at i is changed -/
theorem J.mut {Z : Addr → Prop} {ρ : Fr} {σ : St} {H : Hp} {ω : W3} {i : Nat} {d d' : D} {p : Addr} {o : HO} (j : J B Z ρ σ H ω) (ei : ρ[i]? = some (.own d)) (es : σ[i]? = some (some (.ref p))) (r : RO B.g.tk Z (upd H p o) d' p) (hf : Fix o) :
    J B Z (ρ.set i (.own d')) σ (upd H p o) ω := by
  obtain ⟨p', h1, h2, nz, np, h0, nr⟩ := j.own i d ei
  rw [es] at h1
  cases h1
  have hi : i < ρ.length := (List.getElem?_eq_some_iff.mp ei).1
  have kz : ∀ q u, Z q → H q = some u → upd H p o q = some u := fun q u z h => by
    have hn : q ≠ p := by
      rintro rfl
      exact nz z
    rw [upd_ne hn]; exact h
  obtain ⟨o0, ho0, hf0⟩ := h2.there
  refine ⟨⟨fun q z => ?_, fun q' e' => by rw [upd_ne (fun (z : q' = p) => np (by rw [e', z]))]; exact j.good.dice q' e', fun P hP => ?_⟩, ⟨fun q u h n f => ?_, fun q h => ?_⟩, j.z0, j.zn, by simp [j.len], fun k e ek => ?_, fun k e ek => ?_, fun q rr => ⟨(j.res q rr).1, fun z => ?_⟩, fun k l e f q ek el hk hl => ?_⟩
  · obtain ⟨n, u, h, f⟩ := j.good.zs q z
    exact ⟨n, u, kz q u z h, f⟩
  · obtain ⟨ps, h, t⟩ := j.good.tabs P hP
    refine ⟨ps, ?_, t⟩
    rw [upd_ne]
    · exact h
    · rintro rfl
      rw [ho0] at h; cases h
      exact hf0 ps rfl
  · by_cases hq : q = p
    · subst hq; rw [h0] at h; cases h
    · rw [upd_ne hq]; exact j.ext.keep q u h n f
  · by_cases hq : q = p
    · subst hq; exact h0
    · rw [upd_ne hq] at h; exact j.ext.dom q h
  · by_cases hk : i = k
    · subst hk
      rw [List.getElem?_set_self hi] at ek
      cases ek
    · rw [List.getElem?_set_ne hk] at ek
      obtain ⟨v, q1, q2⟩ := j.val k e ek
      exact ⟨v, q1, q2.mono (fun _ z => z) kz⟩
  · by_cases hk : i = k
    · subst hk
      rw [List.getElem?_set_self hi] at ek
      cases ek
      exact ⟨p, es, r, nz, np, h0, nr⟩
    · rw [List.getElem?_set_ne hk] at ek
      obtain ⟨q, q1, q2, q3, q4, q5, q6⟩ := j.own k e ek
      have hqp : q ≠ p := by
        rintro rfl
        exact hk (j.sep i k d e q ei ek es q1)
      exact ⟨q, q1, q2.mono (fun _ z => z) kz (fun u h => by rw [upd_ne hqp]; exact h), q3, q4, q5, q6⟩
  · by_cases hq : q = p
    · subst hq; exact nr rr
    · rw [upd_ne hq] at z; exact (j.res q rr).2 z
  · by_cases hki : i = k
    · by_cases hli : i = l
      · rw [← hki, ← hli]
      · subst hki
        rw [List.getElem?_set_ne hli] at el
        exact j.sep i l d f q ei el hk hl
    · rw [List.getElem?_set_ne hki] at ek
      by_cases hli : i = l
      · subst hli
        exact j.sep k i e d q ek ei hk hl
      · rw [List.getElem?_set_ne hli] at el
        exact j.sep k l e f q ek el hk hl

def setS (i : Nat) (f : EM D) : SM := fun ρ ω => (f ρ ω).stm fun d ρ ω => .nx (ρ.set i (.val d)) ω
theorem i_set {i : Nat} {f : EM D} : ∀ D σ H, RdS B (setS i f) D σ H → tAsg (RdE B f) (gName i) D σ H := fun D σ H ⟨Z, ρ, ω, j, q⟩ => by
  refine ⟨Z, ρ, ω, j, ?_⟩
  unfold setS at q
  cases ea : f ρ ω with
  | bad => simp only [ea, Out.stm] at q; exact q
  | exc c ω' => simp only [ea, Out.stm] at q; exact q
  | ok d ρ1 ω1 =>
    simp only [ea, Out.stm] at q
    exact fun Z1 v H1 e1 z1 j1 r1 => q Z1 _ H1 (.of j.good z1 e1) (j1.setVal r1)
theorem s_set {i : Nat} {f : EM D} (h : PS X st (tAsg (RdE B f) (gName i))) : PS X st (RdS B (setS i f)) := PS.imp h i_set
def ownS (i : Nat) (f : EM (List D)) : SM := fun ρ ω => (f ρ ω).stm fun ds ρ ω => .nx (ρ.set i (.own (.lst ds))) ω
theorem i_own {i : Nat} {f : EM (List D)} : ∀ D σ H, RdS B (ownS i f) D σ H → tAsg (RdF B f) (gName i) D σ H := fun D σ H ⟨Z, ρ, ω, j, q⟩ => by
  refine ⟨Z, ρ, ω, j, ?_⟩
  unfold ownS at q
  cases ea : f ρ ω with
  | bad => simp only [ea, Out.stm] at q; exact q
  | exc c ω' => simp only [ea, Out.stm] at q; exact q
  | ok d ρ1 ω1 =>
    simp only [ea, Out.stm] at q
    exact fun Z1 p vs H1 e1 z1 j1 hp r1 nz np h0 nr hn => q Z1 _ H1 (.of j.good z1 e1) (j1.setOwn (.lst hp r1) nz np h0 nr hn)
theorem s_own {i : Nat} {f : EM (List D)} (h : PS X st (tAsg (RdF B f) (gName i))) : PS X st (RdS B (ownS i f)) := PS.imp h i_own

/-- x += e, whole numbers -/
def augS (i : Nat) (p : Int → Int → Int) (f : EM D) : SM := fun ρ ω => match ρ[i]? with
  | some (.val (.int n)) => (f ρ ω).stm fun d ρ ω => match d with
    | .int m => .nx (ρ.set i (.val (.int (p n m)))) ω
    | _ => .bad
  | _ => .bad
theorem s_aug {i : Nat} {p : Int → Int → Int} {f : EM D} (h : PS X st (tAug i (RdE B f) (ipI p))) : PS X st (RdS B (augS i p f)) := PS.imp h fun D σ H ⟨Z, ρ, ω, j, q⟩ => by
  unfold augS at q
  cases ei : ρ[i]? with
  | none => simp only [ei] at q; exact q.elim
  | some s =>
    cases s with
    | no => simp only [ei] at q; exact q.elim
    | own d => simp only [ei] at q; exact q.elim
    | val d =>
      cases d with
      | int n =>
        simp only [ei] at q
        obtain ⟨v, h1, h2⟩ := j.val i _ ei
        have := BR.int (g := B.g) (.inl h2)
        subst this
        refine ⟨.int n, h1, Z, ρ, ω, j, ?_⟩
        cases ea : f ρ ω with
        | bad => simp only [ea, Out.stm] at q; exact q
        | exc c ω' => simp only [ea, Out.stm] at q; exact q
        | ok d ρ1 ω1 =>
          simp only [ea, Out.stm] at q
          intro Z1 v H1 e1 z1 j1 r1
          cases d with
          | int m =>
            have := BR.int (g := B.g) (.inl r1)
            subst this
            exact ⟨n, m, rfl, rfl, q Z1 _ H1 (.of j.good z1 e1) (j1.setVal (.int _))⟩
          | _ => exact q.elim
      | _ => simp only [ei] at q; exact q.elim

/-! methods of one's own list -/
/-- xs.append(e) -/
def appS (i : Nat) (f : EM D) : SM := fun ρ ω => match ρ[i]? with
  | some (.own (.lst _)) => (f ρ ω).stm fun d ρ ω => match ρ[i]? with
    | some (.own (.lst ds)) => if ds.length < LIM then .nx (ρ.set i (.own (.lst (ds ++ [d])))) ω else .bad
    | _ => .bad
  | _ => .bad
theorem J.lstAt {Z : Addr → Prop} {ρ : Fr} {σ : St} {H : Hp} {ω : W3} {i : Nat} {ds : List D} (j : J B Z ρ σ H ω) (ei : ρ[i]? = some (.own (.lst ds))) :
    ∃ p vs, σ[i]? = some (some (.ref p)) ∧ H p = some (.lst vs) ∧ RDs B.g.tk Z H ds vs ∧ ¬ Z p := by
  obtain ⟨p, h1, h2, h3, _⟩ := j.own i _ ei
  cases h2 with
  | lst h r => exact ⟨p, _, h1, h, r, h3⟩
theorem kp_upd {Z : Addr → Prop} {H : Hp} {p : Addr} {o : HO} (nz : ¬ Z p) : Kp Z H Z (upd H p o) := ⟨fun _ z => z, fun q u z h => by
  have hn : q ≠ p := by
    rintro rfl
    exact nz z
  rw [upd_ne hn]; exact h⟩
theorem RDs.upd {g : Gd} {Z : Addr → Prop} {H : Hp} {p : Addr} {o : HO} {ds : List D} {vs : List V} (nz : ¬ Z p) (r : RDs g.tk Z H ds vs) : RDs g.tk Z (upd H p o) ds vs :=
  r.mono (fun _ z => z) fun q u z h => by
    have hn : q ≠ p := by
      rintro rfl
      exact nz z
    rw [upd_ne hn]; exact h
theorem RD.set' {g : Gd} {Z : Addr → Prop} {H : Hp} {ds : List D} {vs : List V} {d : D} {v : V} (r : RD g.tk Z H d v) (i : Nat) (s : RDs g.tk Z H ds vs) : RDs g.tk Z H (ds.set i d) (vs.set i v) := s.set i r
theorem RD.upd {g : Gd} {Z : Addr → Prop} {H : Hp} {p : Addr} {o : HO} {d : D} {v : V} (nz : ¬ Z p) (r : RD g.tk Z H d v) : RD g.tk Z (upd H p o) d v :=
  r.mono (fun _ z => z) fun q u z h => by
    have hn : q ≠ p := by
      rintro rfl
      exact nz z
    rw [upd_ne hn]; exact h
theorem s_app {i : Nat} {f : EM D} (h : PS X st (tDrop (tBM X.K "list" rAppend (tVar i) (tCons (RdE B f) tNil)))) : PS X st (RdS B (appS i f)) := PS.imp h fun D σ H ⟨Z, ρ, ω, j, q⟩ => by
  unfold appS at q
  split at q
  · rename_i ds0 ei
    obtain ⟨p, vs0, h1, h2, h3, h4⟩ := j.lstAt ei
    refine ⟨.ref p, h1, .inl ⟨rfl, _, SqL.of h2⟩, Z, ρ, ω, j, ?_⟩
    cases ea : f ρ ω with
    | bad => simp only [ea, Out.stm] at q; exact q
    | exc c ω' => simp only [ea, Out.stm] at q; exact q
    | ok d ρ1 ω1 =>
      simp only [ea, Out.stm] at q
      intro Z1 v H1 e1 z1 j1 r1
      split at q
      · rename_i ds ei1
        by_cases hl : ds.length < LIM
        · rw [if_pos hl] at q
          obtain ⟨p', vs, g1, g2, g3, g4⟩ := j1.lstAt ei1
          rw [h1] at g1
          cases g1
          refine ⟨p, vs, v, rfl, rfl, g2, by rw [← g3.length, ← lim_eq]; exact hl, q Z1 σ _ ((Kp.of j.good z1 e1).trans (kp_upd g4)) (j1.mut ei1 h1 (.lst upd_same ?_) fix_lst)⟩
          exact (g3.append (.cons r1 .nil)).upd g4
        · rw [if_neg hl] at q; exact q.elim
      · exact q.elim
  · exact q.elim
/-- xs[k] = e -/
def setIxS (i : Nat) (k f : EM D) : SM := fun ρ ω => (f ρ ω).stm fun d ρ ω => match ρ[i]? with
  | some (.own (.lst _)) => (k ρ ω).stm fun n ρ ω => match ρ[i]?, n with
    | some (.own (.lst ds)), .int m => (match ixN ds.length m with
      | some j => .nx (ρ.set i (.own (.lst (ds.set j d)))) ω
      | none => .bad)
    | _, _ => .bad
  | _ => .bad
theorem i_setIx {i : Nat} {k f : EM D} : ∀ D σ H, RdS B (setIxS i k f) D σ H → tAsg (RdE B f) (gSub (tVar i) (RdE B k) rSetL) D σ H := fun D σ H ⟨Z, ρ, ω, j, q⟩ => by
  refine ⟨Z, ρ, ω, j, ?_⟩
  unfold setIxS at q
  cases ea : f ρ ω with
  | bad => simp only [ea, Out.stm] at q; exact q
  | exc c ω' => simp only [ea, Out.stm] at q; exact q
  | ok d ρ1 ω1 =>
    simp only [ea, Out.stm] at q
    intro Z1 v H1 e1 z1 j1 r1
    split at q
    · rename_i ds0 ei
      obtain ⟨p, vs0, h1, h2, h3, h4⟩ := j1.lstAt ei
      refine ⟨.ref p, h1, Z1, ρ1, ω1, j1, ?_⟩
      cases eb : k ρ1 ω1 with
      | bad => simp only [eb] at q; exact q.elim
      | exc c ω' => simp only [eb] at q; exact q
      | ok n ρ2 ω2 =>
        simp only [eb] at q
        intro Z2 y H2 e2 z2 j2 r2
        split at q
        · rename_i ds m ei2
          split at q
          · rename_i jj ej
            obtain ⟨p', vs, g1, g2, g3, g4⟩ := j2.lstAt ei2
            rw [h1] at g1
            cases g1
            have := BR.int (g := B.g) (.inl r2)
            subst this
            refine ⟨p, vs, m, jj, rfl, rfl, g2, by rw [← g3.length]; exact ej, q Z2 σ _ ((Kp.of j.good z1 e1).trans ((Kp.of j1.good z2 e2).trans (kp_upd g4))) (j2.mut ei2 h1 (.lst upd_same ?_) fix_lst)⟩
            exact ((r1.ext j1.good z2 e2).set' jj g3).upd g4
          · exact q.elim
        · exact q.elim
    · exact q.elim
theorem s_setIx {i : Nat} {k f : EM D} (h : PS X st (tAsg (RdE B f) (gSub (tVar i) (RdE B k) rSetL))) : PS X st (RdS B (setIxS i k f)) := PS.imp h i_setIx
/-- x = xs.pop(), x = xs.pop(k) -/
def popS (x i : Nat) : SM := fun ρ ω => match ρ[i]? with
  | some (.own (.lst ds)) => (match ds.getLast? with
    | some d => .nx ((ρ.set i (.own (.lst ds.dropLast))).set x (.val d)) ω
    | none => .bad)
  | _ => .bad
theorem last_at {α : Type} {xs : List α} {x : α} (h : xs.getLast? = some x) : xs[xs.length - 1]? = some x := by
  rw [← List.getLast?_eq_getElem?]; exact h
theorem RDs.dropLast {tk : Nat → Option V} {Z : Addr → Prop} {H : Hp} {ds : List D} {vs : List V} (r : RDs tk Z H ds vs) : RDs tk Z H ds.dropLast vs.dropLast := by
  rw [List.dropLast_eq_take, List.dropLast_eq_take, r.length]
  exact r.take _
theorem s_pop {x i : Nat} (h : PS X st (tAsg (tBM0 X.K "list" rPop (tVar i)) (gName x))) : PS X st (RdS B (popS x i)) := PS.imp h fun D σ H ⟨Z, ρ, ω, j, q⟩ => by
  unfold popS at q
  split at q
  · rename_i ds ei
    split at q
    · rename_i d ed
      obtain ⟨p, vs, h1, h2, h3, h4⟩ := j.lstAt ei
      obtain ⟨v, g1, g2⟩ := h3.get (last_at ed)
      refine ⟨.ref p, h1, .inl ⟨rfl, _, SqL.of h2⟩, p, vs, v, rfl, rfl, h2, by rw [← h3.length]; exact g1, ?_⟩
      have j1 := j.mut (d' := .lst ds.dropLast) (o := .lst vs.dropLast) ei h1 (.lst upd_same (h3.dropLast.upd h4)) fix_lst
      exact q Z _ _ (kp_upd h4) (j1.setVal (g2.upd h4))
    · exact q.elim
  · exact q.elim
/-- xs.pop() as a statement -/
def popDropS (i : Nat) : SM := fun ρ ω => match ρ[i]? with
  | some (.own (.lst ds)) => (match ds.getLast? with
    | some d => .nx (ρ.set i (.own (.lst ds.dropLast))) ω
    | none => .bad)
  | _ => .bad
theorem s_popDrop {i : Nat} (h : PS X st (tDrop (tBM0 X.K "list" rPop (tVar i)))) : PS X st (RdS B (popDropS i)) := PS.imp h fun D σ H ⟨Z, ρ, ω, j, q⟩ => by
  unfold popDropS at q
  split at q
  · rename_i ds ei
    split at q
    · rename_i d ed
      obtain ⟨p, vs, h1, h2, h3, h4⟩ := j.lstAt ei
      obtain ⟨v, g1, g2⟩ := h3.get (last_at ed)
      refine ⟨.ref p, h1, .inl ⟨rfl, _, SqL.of h2⟩, p, vs, v, rfl, rfl, h2, by rw [← h3.length]; exact g1, ?_⟩
      exact q Z _ _ (kp_upd h4) (j.mut (d' := .lst ds.dropLast) (o := .lst vs.dropLast) ei h1 (.lst upd_same (h3.dropLast.upd h4)) fix_lst)
    · exact q.elim
  · exact q.elim
end
end L2.Fl

namespace L2.Fl
open PySem PySem.Spec PyProof.Rows

section
variable {X : Cx} {B : Bc} {e a b c tg iter elt : Expr} {pos : Pos} {st : Stmt} {rest body orelse : List Stmt}

/-! ### while -/
def whileS (t : EM Bool) (s : SM) : Nat → SM
  | 0 => fun _ _ => .bad
  | n + 1 => fun ρ ω => (t ρ ω).stm fun b ρ ω => match b with
    | false => .nx ρ ω
    | true => match s ρ ω with
      | .nx ρ ω => whileS t s n ρ ω
      | .ct ρ ω => whileS t s n ρ ω
      | .bk ρ ω => .nx ρ ω
      | o => o
theorem s_while {t : EM Bool} {s : SM} (n : Nat) (hp : PassesOwn (model X.prog X.w) X.A X.env X.xe) (hc : PT X c (RdT B t)) (hb : PSs X body (RdS B s)) : PS X (.While c body [] pos) (RdS B (whileS t s n)) :=
  PS.imp (ps_while hp hc hb) fun D σ H ⟨Z, ρ, ω, j, q⟩ => by
  refine ⟨fun m σ H => ∃ Z ρ ω, J B Z ρ σ H ω ∧ Post B D Z H (whileS t s m ρ ω), ⟨n, Z, ρ, ω, j, q⟩, ?_⟩
  rintro m σ H ⟨Z, ρ, ω, j, q⟩
  cases m with
  | zero => exact q.elim
  | succ m =>
    refine ⟨Z, ρ, ω, j, ?_⟩
    unfold whileS at q
    cases ea : t ρ ω with
    | bad => simp only [ea, Out.stm] at q; exact q
    | exc c ω' => simp only [ea, Out.stm] at q; exact q
    | ok k ρ1 ω1 =>
      simp only [ea, Out.stm] at q
      intro Z1 H1 e1 z1 j1
      have k1 : Kp Z H Z1 H1 := .of j.good z1 e1
      cases k with
      | false =>
        simp only at q
        simp only [Bool.false_eq_true, if_false]
        exact q Z1 σ H1 k1 j1
      | true =>
        simp only at q
        simp only [if_true]
        refine ⟨fun σ H => ∃ Z ρ ω, J B Z ρ σ H ω ∧ Post B D Z H (whileS t s m ρ ω), fun σ' H' h => ⟨m, Nat.lt_succ_self m, h⟩, Z1, ρ1, ω1, j1, ?_⟩
        cases eb : s ρ1 ω1 with
        | nx ρ2 ω2 =>
          simp only [eb] at q
          exact fun Z2 σ2 H2 k2 j2 => ⟨Z2, ρ2, ω2, j2, q.kp (k1.trans k2)⟩
        | ct ρ2 ω2 =>
          simp only [eb] at q
          exact fun Z2 σ2 H2 k2 j2 => ⟨Z2, ρ2, ω2, j2, q.kp (k1.trans k2)⟩
        | bk ρ2 ω2 =>
          simp only [eb] at q
          exact fun Z2 σ2 H2 k2 j2 => q Z2 σ2 H2 (k1.trans k2) j2
        | rt d ω2 => simp only [eb] at q; exact q
        | exc c ω2 => simp only [eb] at q; exact q
        | bad => simp only [eb] at q; exact q

/-! ### targets -/
abbrev TM := D → Fr → Option Fr
def nmT (i : Nat) : TM := fun d ρ => some (ρ.set i (.val d))
abbrev TMs := List D → Fr → Option Fr
def nilT : TMs := fun ds ρ => match ds with
  | [] => some ρ
  | _ => none
def consT (t : TM) (u : TMs) : TMs := fun ds ρ => match ds with
  | d :: ds => (match t d ρ with
    | some ρ1 => u ds ρ1
    | none => none)
  | [] => none
def tupT (t : TMs) : TM := fun d ρ => match d with
  | .tup ds => t ds ρ
  | _ => none
def RdG (B : Bc) (t : TM) (sl : List Nat) : TG := fun v σ H Q => ∃ Z ρ ω d, J B Z ρ σ H ω ∧ RD B.g.tk Z H d v ∧ match t d ρ with
  | some ρ' => ∀ σ' : St, (∀ j, j ∉ sl → σ'[j]? = σ[j]?) → σ'.length = σ.length → J B Z ρ' σ' H ω → Q σ' H
  | none => False
def RdGs (B : Bc) (t : TMs) (sl : List Nat) : TGs := fun vs σ H Q => ∃ Z ρ ω ds, J B Z ρ σ H ω ∧ RDs B.g.tk Z H ds vs ∧ match t ds ρ with
  | some ρ' => ∀ σ' : St, (∀ j, j ∉ sl → σ'[j]? = σ[j]?) → σ'.length = σ.length → J B Z ρ' σ' H ω → Q σ' H
  | none => False
theorem PG.imp {t t' : TG} (h : PG X tg t) (i : ∀ v σ H Q, t' v σ H Q → t v σ H Q) : PG X tg t' := ⟨fun pins s σ H v u Q I r q => h.run pins s σ H v u Q I r (i v σ H Q q)⟩
theorem PGs.imp {es : List Expr} {t t' : TGs} (h : PGs X es t) (i : ∀ v σ H Q, t' v σ H Q → t v σ H Q) : PGs X es t' := ⟨fun pins s σ H v u Q I r q => h.run pins s σ H v u Q I r (i v σ H Q q)⟩
theorem g_nm {i : Nat} (h : PG X tg (gName i)) : PG X tg (RdG B (nmT i) [i]) := PG.imp h fun v σ H Q ⟨Z, ρ, ω, d, j, r, q⟩ => by
  simp only [nmT] at q
  refine q _ (fun k hk => ?_) (by simp) (j.setVal r)
  rw [List.getElem?_set_ne]
  intro e
  exact hk (by simp [e])
theorem gs_nil : PGs X [] (RdGs B nilT []) := PGs.imp pgs_nil fun v σ H Q ⟨Z, ρ, ω, ds, j, r, q⟩ => by
  cases r with
  | nil => exact ⟨rfl, q σ (fun _ _ => rfl) rfl j⟩
  | cons _ _ => exact q.elim
theorem gs_cons {es : List Expr} {t : TM} {u : TMs} {sl sl' : List Nat} (h1 : PG X e (RdG B t sl)) (h2 : PGs X es (RdGs B u sl'))
    (hs : (assignEach (e :: es) X.env).map (·.2) = assign e X.env :: (assignEach es X.env).map (·.2) := by rfl) : PGs X (e :: es) (RdGs B (consT t u) (sl ++ sl')) := PGs.imp (pgs_cons h1 h2 hs) fun v σ H Q ⟨Z, ρ, ω, ds, j, r, q⟩ => by
  cases r with
  | nil => exact q.elim
  | @cons d v ds vs rd rr =>
    simp only [consT] at q
    refine ⟨_, _, rfl, Z, ρ, ω, d, j, rd, ?_⟩
    cases et : t d ρ with
    | none => simp only [et] at q
    | some ρ1 =>
      simp only [et] at q
      intro σ1 h1 l1 j1
      refine ⟨Z, ρ1, ω, ds, j1, rr, ?_⟩
      cases eu : u ds ρ1 with
      | none => simp only [eu] at q
      | some ρ2 =>
        simp only [eu] at q
        intro σ2 h2 l2 j2
        refine q σ2 (fun k hk => ?_) (l2.trans l1) j2
        rw [h2 k (fun z => hk (List.mem_append_right _ z)), h1 k (fun z => hk (List.mem_append_left _ z))]
theorem g_tup {es : List Expr} {k n : Nat} {t : TMs} {sl : List Nat} (hc : X.calm = true) (h : PGs X es (RdGs B t sl)) (hl : ∀ ds ρ ρ', t ds ρ = some ρ' → ds.length = n)
    (hn : (assignEach es X.env).length = n := by rfl) (hst : (assignEach es X.env).findIdx? (·.1) = none := by rfl) : PG X (.Tuple es k pos) (RdG B (tupT t) sl) := PG.imp (pg_tup hc h hn hst) fun v σ H Q ⟨Z, ρ, ω, d, j, r, q⟩ => by
  cases d with
  | tup ds =>
    simp only [tupT] at q
    obtain ⟨p, vs, rfl, zp, hp, r1⟩ := BR.tup (g := B.g) (.inl r)
    cases et : t ds ρ with
    | none => simp only [et] at q
    | some ρ' =>
      refine ⟨p, vs, rfl, SqT.of hp, by rw [← r1.length]; exact hl ds ρ ρ' et, Z, ρ, ω, ds, j, r1, ?_⟩
      rw [et] at q ⊢
      exact q
  | _ => exact q.elim
theorem len_nil : ∀ ds ρ ρ', nilT ds ρ = some ρ' → ds.length = 0 := fun ds ρ ρ' h => by
  cases ds with
  | nil => rfl
  | cons _ _ => cases h
theorem len_cons {t : TM} {u : TMs} {n : Nat} (hu : ∀ ds ρ ρ', u ds ρ = some ρ' → ds.length = n) : ∀ ds ρ ρ', consT t u ds ρ = some ρ' → ds.length = n + 1 := fun ds ρ ρ' h => by
  cases ds with
  | nil => cases h
  | cons d ds =>
    simp only [consT] at h
    cases et : t d ρ with
    | none => rw [et] at h; cases h
    | some ρ1 => rw [et] at h; rw [List.length_cons, hu ds ρ1 ρ' h]

/-! ### what is walked -/
def Wk (g : Gd) (R : (Addr → Prop) → Hp → Prop) (It : L2.It) (ds : List D) : Prop :=
  ∃ (G : Hp → Prop) (Y : Nat → Hp → V → Hp → Prop), Walk It ds.length G Y ∧ (∀ Z H, R Z H → G H) ∧
    ∀ i H x H' Z ω, i < ds.length → Good g Z H ω → R Z H → Y i H x H' → ∃ Z' d, Grow g Z H Z' H' ∧ ds[i]? = some d ∧ RD g.tk Z' H' d x
def RdI (B : Bc) (f : EM (List D)) : TI := fun σ H R => ∃ Z ρ ω, J B Z ρ σ H ω ∧ match f ρ ω with
  | .ok ds ρ' ω' => ∀ (Z' : Addr → Prop) (H' : Hp) (It : L2.It), Ext B.g H H' → (∀ p, Z p → Z' p) → J B Z' ρ' σ H' ω' → Wk B.g (Kp Z' H') It ds → R It H'
  | .exc c ω' => B.Ex c ω'
  | .bad => False
/-- .. where nothing that stands is changed -/
def RdIB (B : Bc) (f : EM (List D)) : TI := fun σ H R => ∃ Z ρ ω, J B Z ρ σ H ω ∧ match f ρ ω with
  | .ok ds ρ' ω' => ∀ (Z' : Addr → Prop) (H' : Hp) (It : L2.It), Ext B.g H H' → (∀ p, Z p → Z' p) → J B Z' ρ' σ H' ω' → Wk B.g (fun Z H => Kp Z' H' Z H ∧ Ext B.g H' H) It ds → R It H'
  | .exc c ω' => B.Ex c ω'
  | .bad => False
theorem PI.imp {t t' : TI} (h : PI X tg iter t) (i : ∀ σ H Q, t' σ H Q → t σ H Q) : PI X tg iter t' := ⟨fun pins s σ H R I q => h.run pins s σ H R I (i σ H R q)⟩
theorem Wk.weak {g : Gd} {R R' : (Addr → Prop) → Hp → Prop} {It : L2.It} {ds : List D} (w : Wk g R It ds) (h : ∀ Z H, R' Z H → R Z H) : Wk g R' It ds := by
  obtain ⟨G, Y, w1, w2, w3⟩ := w
  exact ⟨G, Y, w1, fun Z H r => w2 Z H (h Z H r), fun i H x H' Z ω hi k r y => w3 i H x H' Z ω hi k (h Z H r) y⟩
theorem i_b {f : EM (List D)} (h : PI X tg iter (RdI B f)) : PI X tg iter (RdIB B f) := PI.imp h fun σ H R ⟨Z, ρ, ω, j, q⟩ => by
  refine ⟨Z, ρ, ω, j, ?_⟩
  cases ef : f ρ ω with
  | bad => simp only [ef] at q
  | exc c ω' => simp only [ef] at q; exact q
  | ok ds ρ' ω' =>
    simp only [ef] at q
    exact fun Z' H' It e z j' w => q Z' H' It e z j' (w.weak fun _ _ r => r.1)
/-- a list or a tuple -/
def iSeq (K : PySem.W.Frag) (tl : TE) : TI := fun σ H R => tl σ H fun x H1 => ∃ a, x = .ref a ∧ (((∃ xs, SqL K H1 a xs) ∧ R (Itl K a) H1) ∨ ((∃ xs, SqT K H1 a xs) ∧ R (Itt K a) H1))
theorem pi_seq {l : Expr} {tl : TE} (hl : PE X l tl) : PI X tg l (iSeq X.K tl) := by
  refine ⟨fun pins s σ H R I h => ?_⟩
  refine thn (hl.run pins s σ H _ I h) fun v s1 ⟨x, H1, I1, r1, q1⟩ => ?_
  obtain ⟨a, e, q⟩ := q1
  subst e
  cases r1
  rcases q with ⟨⟨xs, hq⟩, q⟩ | ⟨⟨xs, hq⟩, q⟩
  · obtain ⟨its, rv, p, hz⟩ := I1.list hq
    refine wpAny_pyIter_list p.isList ?_
    refine ⟨s1.heap.objs.size, [s1.heap.objs.size], _, _, H1, rfl, I1.kept (t' := s1.toks) fun b o e => Heap.get?_push_of_some _ e, turn_list a _, ⟨_, Heap.get?_push_size _ rfl, rfl, rfl⟩, fun b hb => ?_, q⟩
    have e : b = s1.heap.objs.size := by simpa using hb
    subst e
    exact I1.fpOk (Nat.le_refl _) (I1.hok.fresh (Nat.le_refl _))
  · obtain ⟨its, rv, p, hz⟩ := I1.tuple hq
    refine wpAny_pyIter_tuple (show s1.heap.IsTuple a its.toArray from p) ?_
    refine ⟨s1.heap.objs.size, [s1.heap.objs.size], _, _, H1, rfl, I1.kept (t' := s1.toks) fun b o e => Heap.get?_push_of_some _ e, turn_tuple a _, ⟨_, Heap.get?_push_size _ rfl, rfl, rfl⟩, fun b hb => ?_, q⟩
    have e : b = s1.heap.objs.size := by simpa using hb
    subst e
    exact I1.fpOk (Nat.le_refl _) (I1.hok.fresh (Nat.le_refl _))
def itM (f : EM D) : EM (List D) := fun ρ ω => (f ρ ω).andThen fun d => optM (items? d)
theorem wk_list {K : PySem.W.Frag} {g : Gd} {R : (Addr → Prop) → Hp → Prop} {p : Addr} {ds : List D} {vs : List V} (hl : ds.length = vs.length) (h : ∀ Z H, R Z H → H p = some (.lst vs)) (hr : ∀ Z H, R Z H → RDs g.tk Z H ds vs) : Wk g R (Itl K p) ds :=
  ⟨fun H => SqL K H p vs, YAt vs, by rw [hl]; exact walk_list, fun Z H r => SqL.of (h Z H r), fun i H x H' Z ω hi k r y => by
    obtain ⟨rfl, e⟩ := y
    obtain ⟨d, h1, h2⟩ := (hr Z _ r).get' e
    exact ⟨Z, d, .refl, h1, h2⟩⟩
theorem wk_tup {K : PySem.W.Frag} {g : Gd} {R : (Addr → Prop) → Hp → Prop} {p : Addr} {ds : List D} {vs : List V} (hl : ds.length = vs.length) (h : ∀ Z H, R Z H → H p = some (.tup vs)) (hr : ∀ Z H, R Z H → RDs g.tk Z H ds vs) : Wk g R (Itt K p) ds :=
  ⟨fun H => SqT K H p vs, YAt vs, by rw [hl]; exact walk_tup, fun Z H r => SqT.of (h Z H r), fun i H x H' Z ω hi k r y => by
    obtain ⟨rfl, e⟩ := y
    obtain ⟨d, h1, h2⟩ := (hr Z _ r).get' e
    exact ⟨Z, d, .refl, h1, h2⟩⟩
theorem w_seq {f : EM D} (h : PE X iter (RdE B f)) : PI X tg iter (RdI B (itM f)) := PI.imp (pi_seq h) fun σ H R ⟨Z, ρ, ω, j, q⟩ => by
  refine ⟨Z, ρ, ω, j, ?_⟩
  unfold itM at q
  cases ea : f ρ ω with
  | bad => simp only [ea, Out.andThen] at q
  | exc c ω' => simp only [ea, Out.andThen] at q; exact q
  | ok d ρ1 ω1 =>
    simp only [ea, Out.andThen, optM] at q
    intro Z1 v H1 e1 z1 j1 r1
    cases d with
    | lst ds =>
      simp only [items?] at q
      cases r1 with
      | obj zp ro =>
        cases ro with
        | lst hp rs => exact ⟨_, rfl, .inl ⟨⟨_, SqL.of hp⟩, q Z1 H1 _ e1 z1 j1 (wk_list rs.length (fun Z H r => r.keep _ _ zp hp) fun Z H r => rs.kp r)⟩⟩
    | tup ds =>
      simp only [items?] at q
      obtain ⟨p, vs, rfl, zp, hp, rs⟩ := BR.tup (g := B.g) (.inl r1)
      exact ⟨_, rfl, .inr ⟨⟨_, SqT.of hp⟩, q Z1 H1 _ e1 z1 j1 (wk_tup rs.length (fun Z H r => r.keep _ _ zp hp) fun Z H r => rs.kp r)⟩⟩
    | _ => simp only [items?] at q
theorem w_seqB {f : EM D} (h : PE X iter (RdB B f)) : PI X tg iter (RdIB B (itM f)) := PI.imp (pi_seq h) fun σ H R ⟨Z, ρ, ω, j, q⟩ => by
  refine ⟨Z, ρ, ω, j, ?_⟩
  unfold itM at q
  cases ea : f ρ ω with
  | bad => simp only [ea, Out.andThen] at q
  | exc c ω' => simp only [ea, Out.andThen] at q; exact q
  | ok d ρ1 ω1 =>
    simp only [ea, Out.andThen, optM] at q
    intro Z1 v H1 e1 z1 j1 r1
    cases d with
    | lst ds =>
      simp only [items?] at q
      have np : ∃ p vs, v = .ref p ∧ H1 p = some (.lst vs) ∧ RDs B.g.tk Z1 H1 ds vs ∧ B.g.pd ≠ some p := by
        rcases r1 with r1 | ⟨p, rfl, n, ro⟩
        · cases r1 with
          | obj zp ro =>
            cases ro with
            | lst hp rs => exact ⟨_, _, rfl, hp, rs, (j1.good.zs _ zp).1⟩
        · cases ro with
          | lst hp rs => exact ⟨_, _, rfl, hp, rs, n⟩
      obtain ⟨p, vs, rfl, hp, rs, n⟩ := np
      exact ⟨_, rfl, .inl ⟨⟨_, SqL.of hp⟩, q Z1 H1 _ e1 z1 j1 (wk_list rs.length (fun Z H r => r.2.keep _ _ hp n fix_lst) fun Z H r => rs.kp r.1)⟩⟩
    | tup ds =>
      simp only [items?] at q
      obtain ⟨p, vs, rfl, zp, hp, rs⟩ := r1.tup
      exact ⟨_, rfl, .inr ⟨⟨_, SqT.of hp⟩, q Z1 H1 _ e1 z1 j1 (wk_tup rs.length (fun Z H r => r.1.keep _ _ zp hp) fun Z H r => rs.kp r.1)⟩⟩
    | _ => simp only [items?] at q
/-! ranges -/
def rgOk (i : Int) : Bool := inBd 4611686018427387903 i
theorem rgOk_ok {i : Int} (h : rgOk i = true) : -(2 ^ 62) ≤ i ∧ i < 2 ^ 62 := by
  have := inBd_ok h
  omega
def rangeL (lo : Int) (n : Nat) : List D := (List.range n).map fun (i : Nat) => D.int (lo + (i : Int))
theorem rangeL_len (lo : Int) (n : Nat) : (rangeL lo n).length = n := by simp [rangeL]
theorem wk_range {g : Gd} {R : (Addr → Prop) → Hp → Prop} {lo : Int} {n : Nat} : Wk g R (Itr lo n) (rangeL lo n) :=
  ⟨fun _ => True, YFn fun i => .int (lo + i), by rw [rangeL_len]; exact walk_range, fun _ _ _ => trivial, fun i H x H' Z ω hi k r y => by
    obtain ⟨rfl, rfl⟩ := y
    rw [rangeL_len] at hi
    exact ⟨Z, .int (lo + i), .refl, by simp [rangeL, hi], .int _⟩⟩
def rng1M (f : EM D) : EM (List D) := fun ρ ω => (f ρ ω).andThen fun d => optM (match d with
  | .int j => if rgOk j then some (rangeL 0 j.toNat) else none
  | _ => none)
theorem w_rng1 {f : EM D} (h : PI X tg iter (iRng1 (tCons (RdB B f) tNil))) : PI X tg iter (RdI B (rng1M f)) := PI.imp h fun σ H R ⟨Z, ρ, ω, j, q⟩ => by
  refine ⟨Z, ρ, ω, j, ?_⟩
  unfold rng1M at q
  cases ea : f ρ ω with
  | bad => simp only [ea, Out.andThen] at q
  | exc c ω' => simp only [ea, Out.andThen] at q; exact q
  | ok d ρ1 ω1 =>
    simp only [ea, Out.andThen, optM] at q
    intro Z1 v H1 e1 z1 j1 r1
    cases d with
    | int m =>
      simp only at q
      by_cases hm : rgOk m = true
      · simp only [hm, if_true] at q
        have := r1.int
        subst this
        exact ⟨m, rfl, (rgOk_ok hm).1, (rgOk_ok hm).2, q Z1 H1 _ e1 z1 j1 wk_range⟩
      · simp only [hm, if_false] at q
        exact q.elim
    | _ => exact q.elim
def rng2M (f h : EM D) : EM (List D) := fun ρ ω => (f ρ ω).andThen fun d ρ ω => (h ρ ω).andThen fun d' => optM (match d, d' with
  | .int i, .int j => if rgOk i && rgOk j then some (rangeL i (j - i).toNat) else none
  | _, _ => none)
theorem w_rng2 {f f' : EM D} (h : PI X tg iter (iRng2 (tCons (RdB B f) (tCons (RdB B f') tNil)))) : PI X tg iter (RdI B (rng2M f f')) := PI.imp h fun σ H R ⟨Z, ρ, ω, j, q⟩ => by
  refine ⟨Z, ρ, ω, j, ?_⟩
  unfold rng2M at q
  cases ea : f ρ ω with
  | bad => simp only [ea, Out.andThen] at q
  | exc c ω' => simp only [ea, Out.andThen] at q; exact q
  | ok d ρ1 ω1 =>
    simp only [ea, Out.andThen, optM] at q
    intro Z1 v H1 e1 z1 j1 r1
    refine ⟨Z1, ρ1, ω1, j1, ?_⟩
    cases eb : f' ρ1 ω1 with
    | bad => simp only [eb] at q
    | exc c ω' => simp only [eb] at q; exact q
    | ok d' ρ2 ω2 =>
      simp only [eb] at q
      intro Z2 w H2 e2 z2 j2 r2
      cases d <;> cases d' <;> first
        | exact q.elim
        | skip
      rename_i i m
      simp only at q
      by_cases hm : (rgOk i && rgOk m) = true
      · simp only [hm, if_true] at q
        have := r1.int
        subst this
        have := r2.int
        subst this
        have hm := Bool.and_eq_true_iff.mp hm
        exact ⟨i, m, rfl, ⟨(rgOk_ok hm.1).1, (rgOk_ok hm.1).2, (rgOk_ok hm.2).1, (rgOk_ok hm.2).2⟩, q Z2 H2 _ (e1.trans e2) (fun p z => z2 p (z1 p z)) j2 wk_range⟩
      · simp only [hm, if_false] at q
        exact q.elim

/-! ### for -/
def forS (t : TM) (s : SM) : List D → SM
  | [] => fun ρ ω => .nx ρ ω
  | d :: ds => fun ρ ω => match t d ρ with
    | none => .bad
    | some ρ1 => match s ρ1 ω with
      | .nx ρ ω => forS t s ds ρ ω
      | .ct ρ ω => forS t s ds ρ ω
      | .bk ρ ω => .nx ρ ω
      | o => o
def forM (f : EM (List D)) (t : TM) (s : SM) : SM := fun ρ ω => (f ρ ω).stm fun ds => forS t s ds
theorem s_for {f : EM (List D)} {t : TM} {s : SM} {sl : List Nat} (hp : PassesOwn (model X.prog X.w) X.A X.env X.xe) (hc : X.calm = true) (hi : PI X tg iter (RdI B f)) (hg : PG X tg (RdG B t sl)) (hb : PSs X body (RdS B s))
    (hs : ∀ x, foldedSetIterable iter X.env x = pure x := by intro _; rfl) : PS X (.For tg iter body [] pos) (RdS B (forM f t s)) := PS.imp (ps_for hp hc hi hg hb hs) fun D σ H ⟨Z, ρ, ω, j, q⟩ => by
  refine ⟨Z, ρ, ω, j, ?_⟩
  unfold forM at q
  cases ea : f ρ ω with
  | bad => simp only [ea, Out.stm] at q; exact q
  | exc c ω' => simp only [ea, Out.stm] at q; exact q
  | ok ds ρ1 ω1 =>
    simp only [ea, Out.stm] at q
    intro Z1 H1 It e1 z1 j1 w
    have k1 : Kp Z H Z1 H1 := .of j.good z1 e1
    obtain ⟨G, Y, w1, w2, w3⟩ := w
    refine for_it w1 (fun i σ H => ∃ Z ρ ω, J B Z ρ σ H ω ∧ Kp Z1 H1 Z H ∧ Post B D Z H (forS t s (ds.drop i) ρ ω)) ⟨Z1, ρ1, ω1, j1, .refl, by rw [List.drop_zero]; exact q.kp k1⟩ (fun i σ H _ ⟨Z, ρ, ω, _, k, _⟩ => w2 Z H k) ?_ ?_
    · rintro i x σ2 H2 H3 hi ⟨Z2, ρ2, ω2, j2, k2, q2⟩ hy
      obtain ⟨Z3, d, gr, hd, rd⟩ := w3 i H2 x H3 Z2 ω2 hi j2.good k2 hy
      have j3 := j2.grow gr
      have k3 : Kp Z2 H2 Z3 H3 := .of j2.good gr.sub gr.ext
      have hd' : ds.drop i = d :: ds.drop (i + 1) := by
        rw [List.drop_eq_getElem_cons hi]
        obtain ⟨_, e⟩ := List.getElem?_eq_some_iff.mp hd
        rw [e]
      rw [hd'] at q2
      unfold forS at q2
      refine ⟨Z3, ρ2, ω2, d, j3, rd, ?_⟩
      cases et : t d ρ2 with
      | none => simp only [et] at q2; exact q2
      | some ρ4 =>
        simp only [et] at q2
        intro σ4 h4 l4 j4
        refine ⟨Z3, ρ4, ω2, j4, ?_⟩
        cases eb : s ρ4 ω2 with
        | nx ρ5 ω5 =>
          simp only [eb] at q2
          exact fun Z5 σ5 H5 k5 j5 => ⟨Z5, ρ5, ω5, j5, k2.trans (k3.trans k5), q2.kp (k3.trans k5)⟩
        | ct ρ5 ω5 =>
          simp only [eb] at q2
          exact fun Z5 σ5 H5 k5 j5 => ⟨Z5, ρ5, ω5, j5, k2.trans (k3.trans k5), q2.kp (k3.trans k5)⟩
        | bk ρ5 ω5 =>
          simp only [eb] at q2
          exact fun Z5 σ5 H5 k5 j5 => q2 Z5 σ5 H5 (k3.trans k5) j5
        | rt d ω5 => simp only [eb] at q2; exact q2
        | exc c ω5 => simp only [eb] at q2; exact q2
        | bad => simp only [eb] at q2; exact q2
    · rintro σ2 H2 ⟨Z2, ρ2, ω2, j2, k2, q2⟩
      rw [List.drop_length] at q2
      exact q2 Z2 σ2 H2 .refl j2
end
end L2.Fl

namespace L2.Fl
open PySem PySem.Spec PyProof.Rows

def Bc.blk (B : Bc) (R : Addr → Prop) : Bc := { B with Ex := fun _ _ => False, E := E0, Rz := fun p => B.Rz p ∨ R p, hE := fun _ _ _ _ _ h => h.elim }
/-- names of a block forgotten, and given back -/
def wipeF : List Nat → Fr → Fr
  | [], ρ => ρ
  | v :: vs, ρ => (wipeF vs ρ).set v .no
def restF : List Nat → Fr → Fr → Fr
  | [], _, ρ => ρ
  | v :: vs, ρ0, ρ => (restF vs ρ0 ρ).set v (ρ0.getD v .no)
def isOwn : Option Slot → Bool
  | some (.own _) => true
  | _ => false
def noOwn (vs : List Nat) (ρ : Fr) : Bool := vs.all fun v => !isOwn ρ[v]?
theorem wipeF_len : ∀ (vs : List Nat) (ρ : Fr), (wipeF vs ρ).length = ρ.length
  | [], _ => rfl
  | v :: vs, ρ => by unfold wipeF; rw [List.length_set, wipeF_len vs ρ]
theorem wipeF_some {ρ : Fr} {i : Nat} {x : Slot} (hx : x ≠ .no) : ∀ {vs : List Nat}, (wipeF vs ρ)[i]? = some x → ρ[i]? = some x ∧ i ∉ vs
  | [], h => ⟨h, by simp⟩
  | v :: vs, h => by
    unfold wipeF at h
    by_cases hi : v = i
    · subst hi
      by_cases hv : v < (wipeF vs ρ).length
      · rw [List.getElem?_set_self hv] at h
        exact absurd (Option.some.inj h).symm hx
      · rw [List.getElem?_eq_none (by simpa using hv)] at h; cases h
    · rw [List.getElem?_set_ne hi] at h
      obtain ⟨h1, h2⟩ := wipeF_some hx h
      exact ⟨h1, by simp only [List.mem_cons, not_or]; exact ⟨fun e => hi e.symm, h2⟩⟩
theorem restF_len : ∀ (vs : List Nat) (ρ0 ρ : Fr), (restF vs ρ0 ρ).length = ρ.length
  | [], _, _ => rfl
  | v :: vs, ρ0, ρ => by unfold restF; rw [List.length_set, restF_len vs ρ0 ρ]
theorem restF_out {ρ0 ρ : Fr} {i : Nat} : ∀ {vs : List Nat}, i ∉ vs → (restF vs ρ0 ρ)[i]? = ρ[i]?
  | [], _ => rfl
  | v :: vs, h => by
    have h1 : v ≠ i := fun e => h (by rw [e]; exact List.mem_cons_self)
    unfold restF
    rw [List.getElem?_set_ne h1]
    exact restF_out fun m => h (List.mem_cons_of_mem _ m)
theorem restF_in {ρ0 ρ : Fr} {i : Nat} : ∀ {vs : List Nat}, i ∈ vs → i < ρ.length → (restF vs ρ0 ρ)[i]? = some (ρ0.getD i .no)
  | v :: vs, h, hi => by
    unfold restF
    by_cases hv : v = i
    · subst hv
      rw [List.getElem?_set_self (by rw [restF_len]; exact hi)]
    · rw [List.getElem?_set_ne hv]
      exact restF_in ((List.mem_cons.mp h).resolve_left fun e => hv e.symm) hi
theorem wipe_get {σ : L2.St} {vs : List Nat} {i : Nat} : i ∈ vs → i < σ.length → (wipe σ vs)[i]? = some none := by
  induction vs with
  | nil => intro h; cases h
  | cons v vs ih =>
    intro h hi
    unfold wipe
    by_cases hv : v = i
    · subst hv
      rw [List.getElem?_set_self (by rw [wipe_length]; exact hi)]
    · rw [List.getElem?_set_ne hv]
      exact ih ((List.mem_cons.mp h).resolve_left fun e => hv e.symm) hi
theorem wipe_eq {σ σ2 : L2.St} {vs : List Nat} (h : ∀ j, j ∉ vs → σ2[j]? = (wipe σ vs)[j]?) (l : σ2.length = (wipe σ vs).length) : wipe σ2 vs = wipe σ vs := by
  apply List.ext_getElem?
  intro i
  have l' : σ2.length = σ.length := by rw [l, wipe_length]
  by_cases hi : i ∈ vs
  · by_cases hl : i < σ.length
    · rw [wipe_get hi (by rw [l']; exact hl), wipe_get hi hl]
    · rw [List.getElem?_eq_none (by rw [wipe_length, l']; omega), List.getElem?_eq_none (by rw [wipe_length]; omega)]
  · rw [wipe_out hi, h i hi]

section
variable {B : Bc} {Z : Addr → Prop} {ρ : Fr} {σ : L2.St} {H : Hp} {ω : W3}
theorem J.wipe (j : J B Z ρ σ H ω) (vs : List Nat) : J B Z (wipeF vs ρ) (L2.wipe σ vs) H ω := by
  refine ⟨j.good, j.ext, j.z0, j.zn, by rw [wipeF_len, wipe_length]; exact j.len, fun k e ek => ?_, fun k e ek => ?_, j.res, fun k l e f q ek el hk hl => ?_⟩
  · obtain ⟨h1, h2⟩ := wipeF_some (by intro z; cases z) ek
    obtain ⟨v, q1, q2⟩ := j.val k e h1
    exact ⟨v, by rw [wipe_out h2]; exact q1, q2⟩
  · obtain ⟨h1, h2⟩ := wipeF_some (by intro z; cases z) ek
    obtain ⟨p, q1, q2⟩ := j.own k e h1
    exact ⟨p, by rw [wipe_out h2]; exact q1, q2⟩
  · obtain ⟨h1, h2⟩ := wipeF_some (by intro z; cases z) ek
    obtain ⟨g1, g2⟩ := wipeF_some (by intro z; cases z) el
    exact j.sep k l e f q h1 g1 (wipe_some hk).1 (wipe_some hl).1
theorem J.toBlk (j : J B Z ρ σ H ω) {R : Addr → Prop} (hR : ∀ p, R p → ¬ Z p ∧ H p ≠ none ∧ ∀ (i : Nat) (d : D), ρ[i]? = some (.own d) → σ[i]? ≠ some (some (.ref p))) : J (B.blk R) Z ρ σ H ω :=
  ⟨j.good, j.ext, j.z0, j.zn, j.len, j.val, fun i d e => by
    obtain ⟨p, h1, h2, h3, h4, h5, h6⟩ := j.own i d e
    refine ⟨p, h1, h2, h3, h4, h5, fun z => ?_⟩
    rcases z with z | z
    · exact h6 z
    · exact (hR p z).2.2 i d e h1, fun p r => by
    rcases r with r | r
    · exact j.res p r
    · exact ⟨(hR p r).1, (hR p r).2.1⟩, j.sep⟩
theorem J.ofBlk0 {R : Addr → Prop} (j : J (B.blk R) Z ρ σ H ω) : J B Z ρ σ H ω :=
  ⟨j.good, j.ext, j.z0, j.zn, j.len, j.val, fun i d e => by
    obtain ⟨p, h1, h2, h3, h4, h5, h6⟩ := j.own i d e
    exact ⟨p, h1, h2, h3, h4, h5, fun z => h6 (.inl z)⟩, fun p r => j.res p (.inl r), j.sep⟩
/-- the block's end: its own names are given back -/
theorem J.rest {Z1 : Addr → Prop} {ρ1 : Fr} {H1 : Hp} {ω1 : W3} {vs : List Nat} (j1 : J B Z1 ρ1 σ H1 ω1) (j : J B Z ρ (L2.wipe σ vs) H ω) (k : Kp Z1 H1 Z H) (hn : noOwn vs ρ1 = true) : J B Z (restF vs ρ1 ρ) σ H ω := by
  have hl : ρ.length = ρ1.length := by rw [j.len, wipe_length, j1.len]
  have back : ∀ (i : Nat) (x : Slot), (restF vs ρ1 ρ)[i]? = some x → (i ∈ vs ∧ ((ρ1[i]? = some x ∧ isOwn (some x) = false) ∨ x = .no)) ∨ (i ∉ vs ∧ ρ[i]? = some x) := fun i x e => by
    by_cases hi : i ∈ vs
    · left
      have hlt : i < ρ.length := by
        have := (List.getElem?_eq_some_iff.mp e).1
        rw [restF_len] at this; exact this
      rw [restF_in hi hlt] at e
      have hlt1 : i < ρ1.length := by rw [← hl]; exact hlt
      have e' : ρ1[i]? = some x := by
        rw [List.getD_eq_getElem?_getD] at e
        rw [List.getElem?_eq_getElem hlt1] at e ⊢
        simpa using e
      refine ⟨hi, .inl ⟨e', ?_⟩⟩
      have := List.all_eq_true.mp hn i hi
      rw [e'] at this
      simpa using this
    · right
      rw [restF_out hi] at e
      exact ⟨hi, e⟩
  refine ⟨j.good, j.ext, j.z0, j.zn, by rw [restF_len, j.len, wipe_length], fun i e ek => ?_, fun i e ek => ?_, j.res, fun i l e f q ek el hk hl => ?_⟩
  · rcases back i _ ek with ⟨_, ⟨h, _⟩ | h⟩ | ⟨hi, h⟩
    · obtain ⟨v, q1, q2⟩ := j1.val i e h
      exact ⟨v, q1, q2.kp k⟩
    · cases h
    · obtain ⟨v, q1, q2⟩ := j.val i e h
      rw [wipe_out hi] at q1
      exact ⟨v, q1, q2⟩
  · rcases back i _ ek with ⟨_, ⟨_, h⟩ | h⟩ | ⟨hi, h⟩
    · cases h
    · cases h
    · obtain ⟨v, q1, q2⟩ := j.own i e h
      rw [wipe_out hi] at q1
      exact ⟨v, q1, q2⟩
  · rcases back i _ ek with ⟨_, ⟨_, h⟩ | h⟩ | ⟨hi, h⟩
    · cases h
    · cases h
    · rcases back l _ el with ⟨_, ⟨_, g⟩ | g⟩ | ⟨gi, g⟩
      · cases g
      · cases g
      · exact j.sep i l e f q h g (by rw [wipe_out hi]; exact hk) (by rw [wipe_out gi]; exact hl)
/-- a reserved thing is changed -/
theorem J.updR (j : J B Z ρ σ H ω) {p : Addr} {o u : HO} (r : B.Rz p) (h0 : B.H0 p = none) (np : B.g.pd ≠ some p) (hu : H p = some u) (hf : Fix u) : J B Z ρ σ (upd H p o) ω := by
  have nz := (j.res p r).1
  have ne : ∀ q, Z q → q ≠ p := fun q z e => nz (e ▸ z)
  have kz : ∀ q u, Z q → H q = some u → upd H p o q = some u := fun q u z h => by rw [upd_ne (ne q z)]; exact h
  refine ⟨⟨fun q z => ?_, fun q' e' => by rw [upd_ne (fun (z : q' = p) => np (by rw [e', z]))]; exact j.good.dice q' e', fun P hP => ?_⟩, ⟨fun q u h n f => ?_, fun q h => ?_⟩, j.z0, j.zn, j.len, fun k e ek => ?_, fun k e ek => ?_, fun q rr => ⟨(j.res q rr).1, fun z => ?_⟩, j.sep⟩
  · obtain ⟨n, u, h, f⟩ := j.good.zs q z
    exact ⟨n, u, kz q u z h, f⟩
  · obtain ⟨ps, h, t⟩ := j.good.tabs P hP
    refine ⟨ps, ?_, t⟩
    rw [upd_ne]
    · exact h
    · rintro rfl
      rw [hu] at h; cases h
      exact hf ps rfl
  · by_cases hq : q = p
    · subst hq; rw [h0] at h; cases h
    · rw [upd_ne hq]; exact j.ext.keep q u h n f
  · by_cases hq : q = p
    · subst hq; exact h0
    · rw [upd_ne hq] at h; exact j.ext.dom q h
  · obtain ⟨v, q1, q2⟩ := j.val k e ek
    exact ⟨v, q1, q2.mono (fun _ z => z) kz⟩
  · obtain ⟨q, q1, q2, q3, q4, q5, q6⟩ := j.own k e ek
    have hqp : q ≠ p := fun e => q6 (e ▸ r)
    exact ⟨q, q1, q2.mono (fun _ z => z) kz (fun u h => by rw [upd_ne hqp]; exact h), q3, q4, q5, q6⟩
  · by_cases hq : q = p
    · rw [hq, upd_same] at z; cases z
    · rw [upd_ne hq] at z; exact (j.res q rr).2 z
end

/-! ### list comprehensions -/
def Out.thenB {α β : Type} (o : Out α) (k : α → Fr → W3 → Out β) : Out β := match o with
  | .ok a ρ ω => k a ρ ω
  | _ => .bad
def compL (vs : List Nat) (t : TM) (tt : EM Bool) (te : EM D) : List D → List D → EM (List D)
  | [], acc => fun ρ ω => .ok acc ρ ω
  | d :: ds, acc => fun ρ ω => match t d ρ with
    | none => .bad
    | some ρ1 => (tt ρ1 ω).thenB fun b ρ2 ω2 => match b with
      | false => compL vs t tt te ds acc (wipeF vs ρ2) ω2
      | true => (te ρ2 ω2).thenB fun x ρ3 ω3 => if acc.length < LIM then compL vs t tt te ds (acc ++ [x]) (wipeF vs ρ3) ω3 else .bad
def lcM (vs : List Nat) (it : EM (List D)) (t : TM) (tt : EM Bool) (te : EM D) : EM (List D) := fun ρ ω => (it ρ ω).andThen fun ds ρ1 ω1 =>
  if noOwn vs ρ1 then (compL vs t tt te ds [] (wipeF vs ρ1) ω1).thenB fun xs ρ2 ω2 => .ok xs (restF vs ρ1 ρ2) ω2 else .bad
def yesT : EM Bool := fun ρ ω => .ok true ρ ω
section
variable {X : Cx} {B : Bc} {e a b c tg iter elt : Expr} {pos : Pos} {st : Stmt} {rest body orelse : List Stmt}
theorem t_nil : PTs X [] (RdT B yesT) := ⟨fun pins s σ H Q I ⟨Z, ρ, ω, j, q⟩ => pts_nil.run pins s σ H Q I (q Z H .refl (fun _ z => z) j)⟩
theorem t_one {f : EM Bool} (h : PT X c (RdT B f)) : PTs X [c] (RdT B f) := pts_one h
/-- the reading for some reserved set -/
def ExE (B : Bc) (f : EM D) : TE := fun σ H Q => ∃ R, RdE (B.blk R) f σ H Q
def ExT (B : Bc) (f : EM Bool) : TT := fun σ H Q => ∃ R, RdT (B.blk R) f σ H Q
def ExG (B : Bc) (t : TM) (sl : List Nat) : TG := fun v σ H Q => ∃ R, RdG (B.blk R) t sl v σ H Q
def ExI (B : Bc) (f : EM (List D)) : TI := fun σ H Q => ∃ R, RdIB (B.blk R) f σ H Q
theorem x_e {f : EM D} (h : ∀ R, PE X e (RdE (B.blk R) f)) : PE X e (ExE B f) := ⟨fun pins s σ H Q I ⟨R, q⟩ => (h R).run pins s σ H Q I q⟩
theorem x_t {f : EM Bool} {ifs : List Expr} (h : ∀ R, PTs X ifs (RdT (B.blk R) f)) : PTs X ifs (ExT B f) := ⟨fun pins s σ H Q I ⟨R, q⟩ => (h R).run pins s σ H Q I q⟩
theorem x_g {t : TM} {sl : List Nat} (h : ∀ R, PG X tg (RdG (B.blk R) t sl)) : PG X tg (ExG B t sl) := ⟨fun pins s σ H v u Q I r ⟨R, q⟩ => (h R).run pins s σ H v u Q I r q⟩
theorem x_i {f : EM (List D)} (h : ∀ R, PI X tg iter (RdIB (B.blk R) f)) : PI X tg iter (ExI B f) := ⟨fun pins s σ H Q I ⟨R, q⟩ => (h R).run pins s σ H Q I q⟩

/-- what the new list's loop is to reach -/
def CPost (B : Bc) (Dn : Addr) (Z1 : Addr → Prop) (H1 : Hp) (σw : L2.St) (Q : Fr → W3 → (Addr → Prop) → List D → List V → Hp → Prop) (o : Out (List D)) : Prop := match o with
  | .ok xs ρ ω => ∀ (Z : Addr → Prop) (vs : List V) (H : Hp), J B Z ρ σw H ω → Kp Z1 H1 Z H → Ext B.g H1 H → H Dn = some (.lst vs) → RDs B.g.tk Z H xs vs → Q ρ ω Z xs vs H
  | _ => False
/-- one clause's loop, where a list stands at Dn already -/
theorem comp_loop {It : L2.It} {ds : List D} {vs slots : List Nat} {t : TM} {tt : EM Bool} {te : EM D} {Dn : Addr} {Z1 : Addr → Prop} {H1 : Hp} {σ : L2.St} {Qd : Hp → Prop} {Q : Fr → W3 → (Addr → Prop) → List D → List V → Hp → Prop} {R : Addr → Prop}
    (hR : R Dn) (h10 : H1 Dn = none) (h0 : B.H0 Dn = none) (np : B.g.pd ≠ some Dn) (hsl : ∀ i ∈ slots, i ∈ vs)
    {Z2 : Addr → Prop} {H2 : Hp} {E2 : Hp → Prop} (w : Wk B.g (fun Z H => Kp Z2 H2 Z H ∧ E2 H) It ds) (hE1 : ∀ H H', E2 H → Ext B.g H H' → E2 H') (hE2 : ∀ H l, E2 H → E2 (upd H Dn (.lst l)))
    {Za : Addr → Prop} {Ha : Hp} {ρ : Fr} {ω : W3} {acc : List D} {av : List V}
    (ja : J (B.blk R) Za ρ (L2.wipe σ vs) Ha ω) (k1 : Kp Z1 H1 Za Ha) (e1 : Ext B.g H1 Ha) (k2 : Kp Z2 H2 Za Ha) (e2 : E2 Ha) (ha : Ha Dn = some (.lst av)) (ra : RDs B.g.tk Za Ha acc av)
    (hq : CPost (B.blk R) Dn Z1 H1 (L2.wipe σ vs) Q (compL vs t tt te ds acc ρ ω))
    (hd : ∀ ρ ω Z xs vs H, Q ρ ω Z xs vs H → Qd H) :
    ∃ W : Nat → Nat → Hp → Prop, (∃ m, W 0 m Ha) ∧ ∀ i m H, W i m H →
      (It.stop i H ∧ Qd H) ∨ (It.go i H ∧ ∃ Nx : Hp → Prop, (∀ H', Nx H' → ∃ m', m' < m ∧ W (i + 1) m' H') ∧ ∀ x H', It.yld i H x H' → ExG B t slots x (L2.wipe σ vs) H' fun σ2 H2 => L2.wipe σ2 vs = L2.wipe σ vs ∧ ExT B tt σ2 H2 fun b H3 =>
        if b = true then ExE B te σ2 H3 fun y H4 => ∃ acc, H4 Dn = some (.lst acc) ∧ acc.length < sizeLine ∧ Nx (upd H4 Dn (.lst (acc ++ [y]))) else Nx H3) := by
  obtain ⟨G, Y, w1, w2, w3⟩ := w
  let Pv : Nat → Hp → Prop := fun i H => ∃ Z ρ ω acc av, J (B.blk R) Z ρ (L2.wipe σ vs) H ω ∧ Kp Z1 H1 Z H ∧ Ext B.g H1 H ∧ Kp Z2 H2 Z H ∧ E2 H ∧ H Dn = some (.lst av) ∧ RDs B.g.tk Z H acc av ∧ CPost (B.blk R) Dn Z1 H1 (L2.wipe σ vs) Q (compL vs t tt te (ds.drop i) acc ρ ω)
  refine ⟨fun i m H => m = ds.length - i ∧ i ≤ ds.length ∧ Pv i H, ⟨ds.length, by simp, Nat.zero_le _, Za, ρ, ω, acc, av, ja, k1, e1, k2, e2, ha, ra, by rw [List.drop_zero]; exact hq⟩, ?_⟩
  rintro i m H ⟨rfl, hi, Z, ρ, ω, acc, av, jj, k1, e1, k2, e2, ha, ra, hq⟩
  have hG := w2 Z H ⟨k2, e2⟩
  by_cases hlt : i < ds.length
  · refine .inr ⟨w1.goes i H hlt hG, Pv (i + 1), fun H' p' => ⟨ds.length - (i + 1), by omega, rfl, hlt, p'⟩, fun x H' y => ?_⟩
    obtain ⟨Z3, d, gr, hd, rd⟩ := w3 i H x H' Z ω hlt jj.good ⟨k2, e2⟩ (w1.yields i H x H' hlt hG y)
    have j3 : J (B.blk R) Z3 ρ (L2.wipe σ vs) H' ω := jj.grow (B := B.blk R) gr
    have kk3 : Kp Z H Z3 H' := .of jj.good gr.sub gr.ext
    have hd' : ds.drop i = d :: ds.drop (i + 1) := by
      rw [List.drop_eq_getElem_cons hlt]
      obtain ⟨_, e⟩ := List.getElem?_eq_some_iff.mp hd
      rw [e]
    rw [hd'] at hq
    unfold compL at hq
    refine ⟨R, Z3, ρ, ω, d, j3, rd, ?_⟩
    cases et : t d ρ with
    | none => simp only [et] at hq; exact hq
    | some ρ4 =>
      simp only [et] at hq
      intro σ4 h4 l4 j4
      have hw4 : L2.wipe σ4 vs = L2.wipe σ vs := wipe_eq (fun j hj => h4 j fun z => hj (hsl j z)) l4
      refine ⟨hw4, R, Z3, ρ4, ω, j4, ?_⟩
      cases eb : tt ρ4 ω with
      | bad => simp only [eb, Out.thenB] at hq; exact hq
      | exc c ω' => simp only [eb, Out.thenB] at hq; exact hq.elim
      | ok b ρ5 ω5 =>
        simp only [eb, Out.thenB] at hq
        intro Z5 H5 x5 z5 j5
        have kk5 : Kp Z3 H' Z5 H5 := .of j4.good z5 x5
        have e5 : Ext B.g H H5 := gr.ext.trans x5
        have k5 : Kp Z H Z5 H5 := kk3.trans kk5
        cases b with
        | false =>
          simp only at hq
          simp only [Bool.false_eq_true, if_false]
          exact ⟨Z5, wipeF vs ρ5, ω5, acc, av, by rw [← hw4]; exact j5.wipe vs, k1.trans k5, e1.trans e5, k2.trans k5, hE1 _ _ e2 e5, e5.keep _ _ ha np fix_lst, ra.kp k5, hq⟩
        | true =>
          simp only at hq
          simp only [if_true]
          refine ⟨R, Z5, ρ5, ω5, j5, ?_⟩
          cases ee : te ρ5 ω5 with
          | bad => simp only [ee] at hq; exact hq
          | exc c ω' => simp only [ee] at hq; exact hq.elim
          | ok v ρ6 ω6 =>
            simp only [ee] at hq
            intro Z6 y6 H6 x6 z6 j6 r6
            by_cases hl : acc.length < LIM
            · simp only [hl, if_true] at hq
              have k6 : Kp Z H Z6 H6 := k5.trans (.of j5.good z6 x6)
              have e6 : Ext B.g H H6 := e5.trans x6
              have h6 := e6.keep _ _ ha np fix_lst
              have nz : ¬ Z6 Dn := (j6.res Dn (.inr hR)).1
              have ku : Kp Z6 H6 Z6 (upd H6 Dn (.lst (av ++ [y6]))) := kp_upd nz
              have eu : ∀ {Hx : Hp}, Ext B.g Hx H6 → Hx Dn = none → Ext B.g Hx (upd H6 Dn (.lst (av ++ [y6]))) := fun {Hx} ex hx => ⟨fun p o h n f => by rw [upd_ne (ne_of_none h hx)]; exact ex.keep p o h n f, fun p h => by
                by_cases hp : p = Dn
                · rw [hp]; exact hx
                · rw [upd_ne hp] at h; exact ex.dom p h⟩
              refine ⟨av, h6, by rw [← ra.length, ← lim_eq]; exact hl, Z6, wipeF vs ρ6, ω6, acc ++ [v], av ++ [y6], ?_, (k1.trans k6).trans ku, eu (e1.trans e6) h10, (k2.trans k6).trans ku, hE2 _ _ (hE1 _ _ e2 e6), upd_same, ((ra.kp k6).append (.cons r6 .nil)).kp ku, hq⟩
              rw [← hw4]
              exact (j6.updR (B := B.blk R) (.inr hR) h0 np h6 fix_lst).wipe vs
            · simp only [hl, if_false] at hq
              exact hq.elim
  · have hi' : i = ds.length := by omega
    subst hi'
    rw [List.drop_length] at hq
    exact .inl ⟨w1.stops H hG, hd _ _ _ _ _ _ (hq Z av H jj k1 e1 ha ra)⟩
theorem ext_new {g : Gd} {H1 H : Hp} {p : Addr} {o : HO} (e : Ext g H1 H) (h : H1 p = none) : Ext g H1 (upd H p o) := ⟨fun q u hq n f => by rw [upd_ne (ne_of_none hq h)]; exact e.keep q u hq n f, fun q hq => by
  by_cases hp : q = p
  · rw [hp]; exact h
  · rw [upd_ne hp] at hq; exact e.dom q hq⟩
theorem i_lc {it : EM (List D)} {vs slots : List Nat} {t : TM} {tt : EM Bool} {te : EM D} (hsl : ∀ i ∈ slots, i ∈ vs) : ∀ σ H Q, RdF B (lcM vs it t tt te) σ H Q → tLc (RdIB B it) (ExG B t slots) (ExT B tt) (ExE B te) vs σ H Q := fun σ H Q ⟨Z, ρ, ω, j, h⟩ => by
  refine ⟨Z, ρ, ω, j, ?_⟩
  unfold lcM at h
  cases ea : it ρ ω with
  | bad => simp only [ea, Out.andThen] at h
  | exc c ω' => simp only [ea, Out.andThen] at h; exact h
  | ok ds ρ1 ω1 =>
    simp only [ea, Out.andThen] at h
    intro Z1 H1 It e1 z1 j1 w Dn hD
    by_cases hno : noOwn vs ρ1 = true
    · simp only [hno, if_true] at h
      obtain ⟨n1, n2, n3, n5, n4⟩ := fresh_of j1 hD
      have gr : Grow B.g Z1 H1 Z1 (upd H1 Dn (.lst [])) := grow_new0 hD
      have ja : J (B.blk (· = Dn)) Z1 (wipeF vs ρ1) (L2.wipe σ vs) (upd H1 Dn (.lst [])) ω1 := by
        refine ((j1.grow gr).toBlk (R := (· = Dn)) fun p hp => ?_).wipe vs
        subst hp
        exact ⟨n1, (by rw [upd_same]; intro z; cases z), n4⟩
      have kk : Kp Z1 H1 Z1 (upd H1 Dn (.lst [])) := .of j1.good gr.sub gr.ext
      refine comp_loop (R := (· = Dn)) (Z1 := Z1) (H1 := H1) (Q := fun ρ ω Z xs vs H => Q (.ref Dn) H) (E2 := Ext B.g H1) rfl hD n3 n2 hsl w (fun _ _ a b => a.trans b) (fun _ _ a => ext_new a hD) ja kk gr.ext kk gr.ext upd_same .nil ?_ (fun _ _ _ _ _ _ q => q)
      cases ec : compL vs t tt te ds [] (wipeF vs ρ1) ω1 with
      | bad => simp only [ec, Out.thenB] at h
      | exc c ω' => simp only [ec, Out.thenB] at h
      | ok xs ρ2 ω2 =>
        simp only [ec, Out.thenB] at h
        intro Z2 lv H2 j2 k2 e2 hl rl
        have jr := (j2.ofBlk0 (R := (· = Dn)))
        have jf := J.rest j1 jr k2 hno
        refine h Z2 Dn lv H2 (e1.trans e2) (fun p z => k2.sub p (z1 p z)) jf hl rl (j2.res Dn (.inr rfl)).1 n2 n3 n5 fun i d hi hs => ?_
        -- no own slot stands at the new list
        by_cases hiv : i ∈ vs
        · have hlt : i < ρ2.length := by
            have := (List.getElem?_eq_some_iff.mp hi).1
            rw [restF_len] at this; exact this
          rw [restF_in hiv hlt] at hi
          have hl2 : ρ2.length = ρ1.length := by rw [j2.len, wipe_length, j1.len]
          have hlt1 : i < ρ1.length := by rw [← hl2]; exact hlt
          have := List.all_eq_true.mp hno i hiv
          rw [List.getD_eq_getElem?_getD, List.getElem?_eq_getElem hlt1] at hi
          rw [List.getElem?_eq_getElem hlt1] at this
          have hi' : ρ1[i] = .own d := by simpa using hi
          rw [hi'] at this
          simp [isOwn] at this
        · rw [restF_out hiv] at hi
          obtain ⟨p, q1, q2, q3, q4, q5, q6⟩ := j2.own i d hi
          rw [wipe_out hiv, hs] at q1
          cases q1
          exact q6 (.inr rfl)
    · simp only [hno, if_false] at h
      exact h.elim
theorem f_lc {elt tg iter : Expr} {ifs : List Expr} {scope : Scope} {own : List (Str × Nat)} {it : EM (List D)} {slots : List Nat} {t : TM} {tt : EM Bool} {te : EM D} (hc : X.calm = true) (hN : X.N.Nodup) (hi : PI X tg iter (RdIB B it)) (ok : BlkOk X.N X.env.scope scope own) (hsl : ∀ i ∈ slots, i ∈ own.map (·.2))
    (hg : ∀ (R : Addr → Prop) (s : Shared) (H : Hp) (C : Addr) (cl : List (Str × Addr)) (fp : List Addr), PG (X.blk s H scope (compEnvC scope cl C X.env) fp) tg (RdG (B.blk R) t slots))
    (ht : ∀ (R : Addr → Prop) (s : Shared) (H : Hp) (C : Addr) (cl : List (Str × Addr)) (fp : List Addr), PTs (X.blk s H scope (compEnvC scope cl C X.env) fp) ifs (RdT (B.blk R) tt))
    (he : ∀ (R : Addr → Prop) (s : Shared) (H : Hp) (C : Addr) (cl : List (Str × Addr)) (fp : List Addr), PE (X.blk s H scope (compEnvC scope cl C X.env) fp) elt (RdE (B.blk R) te))
    (hs : ∀ x, foldedSetIterable iter X.env x = pure x := by intro _; rfl) : PE X (.ListComp elt [⟨tg, iter, ifs, 0⟩] scope pos) (RdF B (lcM (own.map (·.2)) it t tt te)) :=
  PE.imp (pe_lc hc hN hi ok (fun s H C cl fp => x_g fun R => hg R s H C cl fp) (fun s H C cl fp => x_t fun R => ht R s H C cl fp) (fun s H C cl fp => x_e fun R => he R s H C cl fp) hs) (i_lc hsl)
/-- y = [..], the list frozen; the list y's own -/
theorem s_setLc {i : Nat} {vs slots : List Nat} {it : EM (List D)} {t : TM} {tt : EM Bool} {te : EM D} (hsl : ∀ i ∈ slots, i ∈ vs) (h : PS X st (tAsg (tLc (RdIB B it) (ExG B t slots) (ExT B tt) (ExE B te) vs) (gName i))) :
    PS X st (RdS B (setS i (frz (lcM vs it t tt te)))) := PS.imp h fun D σ H q => i_lc hsl σ H _ (i_frz σ H _ (i_set D σ H q))
theorem s_ownLc {i : Nat} {vs slots : List Nat} {it : EM (List D)} {t : TM} {tt : EM Bool} {te : EM D} (hsl : ∀ i ∈ slots, i ∈ vs) (h : PS X st (tAsg (tLc (RdIB B it) (ExG B t slots) (ExT B tt) (ExE B te) vs) (gName i))) :
    PS X st (RdS B (ownS i (lcM vs it t tt te))) := PS.imp h fun D σ H q => i_lc hsl σ H _ (i_own D σ H q)
end
end L2.Fl

namespace L2.Fl
open PySem PySem.Spec PyProof.Rows

/-! ### defs and calls -/
structure G0 where
  K : PySem.W.Frag
  tk : Option Addr → Nat → Option V
  T : List Addr
  cls : Nat → Addr
def G0.at (G : G0) (pd : Option Addr) : Gd := ⟨G.K, pd, G.tk pd, G.T⟩
def spM (G : G0) (n : Nat) (fM : FM) : Sp := fun vs H Q E => ∃ (pd : Option Addr) (Z : Addr → Prop) (ds : List D) (ω : W3), Good (G.at pd) Z H ω ∧ RDs (G.tk pd) Z H ds vs ∧ ds.length = n ∧ match fM ds ω with
  | .ok d ω' => ∀ (v : V) (H' : Hp) (Z' : Addr → Prop), Ext (G.at pd) H H' → (∀ p, Z p → Z' p) → (∀ p, Z' p → Z p ∨ H p = none) → Good (G.at pd) Z' H' ω' → RD (G.tk pd) Z' H' d v → Q v H'
  | .exc c ω' => ∀ (d : Option Addr) (H' : Hp) (Z' : Addr → Prop), Ext (G.at pd) H H' → Good (G.at pd) Z' H' ω' → E (.ref (G.cls c)) d H'
  | .bad => False
def startF (n : Nat) (ds : List D) : Fr := ds.map Slot.val ++ List.replicate (n - ds.length) Slot.no
def runM (n : Nat) (s : SM) : FM := fun ds ω => match s (startF n ds) ω with
  | .rt d ω' => .ok d ω'
  | .nx _ ω' => .ok .non ω'
  | .exc c ω' => .exc c ω'
  | _ => .bad
/-- a def that is known: it stands at the module's name x -/
def Kn (P : Program) (w : World) (K : PySem.W.Frag) (mg : Str → Option Value) (base : Heap) (G : G0) (x : Str) (k n : Nat) (fM : FM) : Prop :=
  ∃ (f : Addr) (fd : FuncData) (ps : List Str), FnOk P w K mg base (CX P w) k f fd ps (spM G n fM) ∧ mg x = some (.ref f) ∧ PySem.W.keepIn K (.ref f) = true ∧ Binds K fd ps []

/-- the body's words are those of the ground -/
structure BOf (G : G0) (B : Bc) : Prop where
  g : ∃ pd, B.g = G.at pd
  cls : B.cls = G.cls
theorem BOf.blk {G : G0} {B : Bc} (h : BOf G B) (R : Addr → Prop) : BOf G (B.blk R) := ⟨h.g, h.cls⟩

theorem start_len (N : List Str) (vs : List V) (h : vs.length ≤ N.length) : (L2.start N vs).length = N.length := by
  unfold L2.start
  rw [List.length_append, List.length_map, List.length_replicate]
  omega
section
variable {P : Program} {w : World} {K : PySem.W.Frag} {mg : Str → Option Value} {base : Heap} {G : G0}
/-- THE RULE for a def -/
theorem mkFn {x qual : Str} {st : Stmt} {f : Addr} {fd : FuncData} {N ps : List Str} {k n : Nat} {s : SM} (F : Fun K x qual st f fd) (S : FnScope N ps (defScope st)) (hn : ps.length = n) (hps : ps.length ≤ N.length)
    (hT : ∀ (cdv : Value) (A : Around) (outer : List Env) (sh : Shared) (H : Hp) (B : Bc), BOf G B → B.Rz = (fun _ => False) → Room k (A.deeper (envOfC qual (defScope st) sh.heap.objs.size f cdv)) →
      PSs (cxOf (CX P w) P w K mg base N qual (defScope st) f cdv A outer sh H B.E) (defBody st) (RdS B s)) :
    FnOk P w K mg base (CX P w) (k + 1) f fd ps (spM G n (runM N.length s)) := by
  refine F.okX S (fun vs H Q E h => ?_) (fun cdv A outer sh H vs Q E hr h => ?_)
  · obtain ⟨pd, Z, ds, ω, _, r, l, _⟩ := h
    rw [← r.length, l, hn]
  · obtain ⟨pd, Z, ds, ω, good, r, l, q⟩ := h
    let B : Bc := { g := G.at pd, H0 := H, Z0 := Z, cls := G.cls, Ex := fun c ω' => runM N.length s ds ω = .exc c ω', E := E, Rz := fun _ => False, hE := fun c ω' d H' Z' hx ex gd => by rw [hx] at q; exact q d H' Z' ex gd }
    have hl : ds.length = vs.length := r.length
    have hlN : vs.length ≤ N.length := by omega
    refine ⟨_, hT cdv A outer sh H B ⟨⟨pd, rfl⟩, rfl⟩ rfl hr, Z, startF N.length ds, ω, ⟨good, .refl, fun _ z => z, fun _ z => .inl z, ?_, fun i d e => ?_, fun i d e => ?_, fun _ z => z.elim, fun i j d e p h1 => ?_⟩, ?_⟩
    · rw [start_len N vs hlN]
      unfold startF
      rw [List.length_append, List.length_map, List.length_replicate]
      omega
    · unfold startF at e
      by_cases hi : i < ds.length
      · rw [List.getElem?_append_left (by simpa using hi), List.getElem?_map] at e
        cases ed : ds[i]? with
        | none => rw [ed] at e; cases e
        | some d' =>
          rw [ed] at e
          cases e
          obtain ⟨v, h1, h2⟩ := r.get ed
          refine ⟨v, ?_, h2⟩
          unfold L2.start
          rw [List.getElem?_append_left (by rw [List.length_map]; omega), List.getElem?_map, h1]
          rfl
      · rw [List.getElem?_append_right (by simpa using hi), List.getElem?_replicate] at e
        split at e <;> cases e
    · exfalso
      unfold startF at e
      by_cases hi : i < ds.length
      · rw [List.getElem?_append_left (by simpa using hi), List.getElem?_map] at e
        cases ed : ds[i]? with
        | none => rw [ed] at e; cases e
        | some d' => rw [ed] at e; cases e
      · rw [List.getElem?_append_right (by simpa using hi), List.getElem?_replicate] at e
        split at e <;> cases e
    · exfalso
      unfold startF at h1
      by_cases hi : i < ds.length
      · rw [List.getElem?_append_left (by simpa using hi), List.getElem?_map] at h1
        cases ed : ds[i]? with
        | none => rw [ed] at h1; cases h1
        | some d' => rw [ed] at h1; cases h1
      · rw [List.getElem?_append_right (by simpa using hi), List.getElem?_replicate] at h1
        split at h1 <;> cases h1
    · have key : ∀ o, s (startF N.length ds) ω = o → Post B { nx := fun _ H' => Q .non H', rt := Q } Z H o := fun o eo => by
        cases o with
        | nx ρ' ω' =>
          intro Z' σ' H' kp j
          have e : runM N.length s ds ω = .ok .non ω' := by unfold runM; rw [eo]
          rw [e] at q
          exact q .non H' Z' j.ext j.z0 j.zn j.good .non
        | rt d ω' =>
          intro Z' ρ' σ' v H' j rd
          have e : runM N.length s ds ω = .ok d ω' := by unfold runM; rw [eo]
          rw [e] at q
          exact q v H' Z' j.ext j.z0 j.zn j.good rd
        | exc c ω' =>
          show runM N.length s ds ω = .exc c ω'
          unfold runM; rw [eo]
        | bk ρ' ω' =>
          have e : runM N.length s ds ω = .bad := by unfold runM; rw [eo]
          rw [e] at q; exact q.elim
        | ct ρ' ω' =>
          have e : runM N.length s ds ω = .bad := by unfold runM; rw [eo]
          rw [e] at q; exact q.elim
        | bad =>
          have e : runM N.length s ds ω = .bad := by unfold runM; rw [eo]
          rw [e] at q; exact q.elim
      exact key _ rfl
theorem mkKn {x : Str} {f : Addr} {fd : FuncData} {ps : List Str} {k n : Nat} {fM : FM} (h : FnOk P w K mg base (CX P w) k f fd ps (spM G n fM)) (hm : mg x = some (.ref f)) (hk : PySem.W.keepIn K (.ref f) = true) (hb : Binds K fd ps []) : Kn P w K mg base G x k n fM := ⟨f, fd, ps, h, hm, hk, hb⟩
end

section
variable {X : Cx} {B : Bc} {G : G0} {e : Expr} {es : List Expr} {x : Str} {p pos : Pos} {st : Stmt}
def callM (fM : FM) (n : Nat) (fa : EM (List D)) : EM D := fun ρ ω => (fa ρ ω).andThen fun ds ρ ω => if ds.length = n then (match fM ds ω with
  | .ok d ω' => .ok d ρ ω'
  | .exc c ω' => .exc c ω'
  | .bad => .bad) else .bad
theorem J.called {Z Z' : Addr → Prop} {ρ : Fr} {σ : L2.St} {H H' : Hp} {ω ω' : W3} (j : J B Z ρ σ H ω) (ex : Ext B.g H H') (sub : ∀ p, Z p → Z' p) (new : ∀ p, Z' p → Z p ∨ H p = none) (good : Good B.g Z' H' ω') : J B Z' ρ σ H' ω' := by
  have kp : Kp Z H Z' H' := .of j.good sub ex
  refine ⟨good, j.ext.trans ex, fun p z => sub p (j.z0 p z), fun p z => ?_, j.len, fun i d e => ?_, fun i d e => ?_, fun p r => ⟨fun z => ?_, fun z => (j.res p r).2 (ex.dom p z)⟩, j.sep⟩
  · rcases new p z with z | z
    · exact j.zn p z
    · exact .inr (j.ext.dom p z)
  · obtain ⟨v, h1, h2⟩ := j.val i d e
    exact ⟨v, h1, h2.kp kp⟩
  · obtain ⟨p, h1, h2, h3, h4, h5, h6⟩ := j.own i d e
    refine ⟨p, h1, h2.ext j.good sub ex h4, fun z => ?_, h4, h5, h6⟩
    rcases new p z with z | z
    · exact h3 z
    · obtain ⟨o, ho, _⟩ := h2.there
      rw [z] at ho; cases ho
  · rcases new p z with z | z
    · exact (j.res p r).1 z
    · exact (j.res p r).2 z
theorem i_call {fM : FM} {n : Nat} {fa : EM (List D)} (hB : BOf G B) : ∀ σ H Q, RdE B (callM fM n fa) σ H Q → tCall (spM G n fM) [] B.E (RdA B fa) σ H Q := fun σ H Q ⟨Z, ρ, ω, j, h⟩ => by
  refine ⟨Z, ρ, ω, j, ?_⟩
  unfold callM at h
  cases ea : fa ρ ω with
  | bad => simp only [ea, Out.andThen] at h
  | exc c ω' => simp only [ea, Out.andThen] at h; exact h
  | ok ds ρ1 ω1 =>
    simp only [ea, Out.andThen] at h
    intro Z1 vs H1 e1 z1 j1 r1
    by_cases hl : ds.length = n
    · rw [if_pos hl] at h
      obtain ⟨⟨pd, eg⟩, ec⟩ := hB
      have ek : B.g.tk = G.tk pd := by rw [eg]; rfl
      refine ⟨pd, Z1, ds, ω1, by rw [← eg]; exact j1.good, by rw [← ek, List.append_nil]; exact r1, hl, ?_⟩
      cases em : fM ds ω1 with
      | bad => simp only [em] at h
      | exc c ω' =>
        simp only [em] at h
        intro d H' Z' ex gd
        rw [← eg] at ex gd
        rw [← ec]
        exact B.hE c ω' d H' Z' h (j1.ext.trans ex) gd
      | ok d ω' =>
        simp only [em] at h
        intro v H' Z' ex sub new gd rd
        rw [← eg] at ex gd
        rw [← ek] at rd
        exact h Z' v H' (e1.trans ex) (fun p z => sub p (z1 p z)) (j1.called ex sub new gd) rd
    · rw [if_neg hl] at h
      exact h.elim
theorem m_call {fM : FM} {k j n : Nat} {fa : EM (List D)} (kn : Kn X.prog X.w X.K X.mg X.base G x j n fM) (hB : BOf G B) (hr : Room k X.A) (hk : j ≤ k) (hg : Gl X x) (hx : Passes (CX X.prog X.w) X B.E) (ha : PA X (e :: es) (RdA B fa))
    (hdb : (x == ("__debug__" : Str)) = false := by decide) (he : starEach (e :: es) X.env = (false, eval e X.env) :: starEach es X.env := by rfl) (hpl : (backTo pos (starEach es X.env)).any (·.1) = false := by rfl) :
    PE X (.Call (.Name x p) (e :: es) [] pos) (RdE B (callM fM n fa)) := by
  obtain ⟨f, fd, ps, F, hm, hkp, hb⟩ := kn
  exact PE.imp (pe_call F (hr.mono hk) hg hm hkp hb .nil hx ha hdb he hpl) (i_call hB)
theorem passF {P : Program} {w : World} {K : PySem.W.Frag} {mg : Str → Option Value} {base : Heap} {N : List Str} {qual : Str} {scope : Scope} {f : Addr} {cd : Value} {A : Around} {outer : List Env} {s : Shared} {H : Hp} {E : XK} :
    Passes (CX P w) (cxOf (CX P w) P w K mg base N qual scope f cd A outer s H E) E := passes_call (X := cxOf (CX P w) P w K mg base N qual scope f cd A outer s H E) (W := fun cls d _ H => E cls d H) (takes_of rfl rfl rfl rfl) (fun _ _ _ _ h => h)
theorem ownF {P : Program} {w : World} {K : PySem.W.Frag} {mg : Str → Option Value} {base : Heap} {N : List Str} {qual : Str} {scope : Scope} {f : Addr} {cd : Value} {A : Around} {outer : List Env} {s : Shared} {H : Hp} {E : XK} :
    PassesOwn (model P w) (cxOf (CX P w) P w K mg base N qual scope f cd A outer s H E).A (cxOf (CX P w) P w K mg base N qual scope f cd A outer s H E).env (cxOf (CX P w) P w K mg base N qual scope f cd A outer s H E).xe :=
  passes_of (X := cxOf (CX P w) P w K mg base N qual scope f cd A outer s H E) rfl
/-- raise -/
def raS (c : Nat) : SM := fun _ ω => .exc c ω
theorem s_raise {c : Nat} (h : PS X st (fun _ _ H => B.E (.ref (B.cls c)) none H)) : PS X st (RdS B (raS c)) := PS.imp h fun D σ H ⟨Z, ρ, ω, j, q⟩ => B.hE c ω none H Z q j.ext j.good
end
end L2.Fl

namespace L2.Fl
open PySem PySem.Spec PyProof.Rows

/-- the built-ins' names are the built-ins' -/
structure Bn (mg : Str → Option Value) : Prop where
  abs : mg "abs" = none
  all : mg "all" = none
  any : mg "any" = none
  dict : mg "dict" = none
  enumerate : mg "enumerate" = none
  int : mg "int" = none
  isinstance : mg "isinstance" = none
  len : mg "len" = none
  list : mg "list" = none
  max : mg "max" = none
  min : mg "min" = none
  range : mg "range" = none
  reversed : mg "reversed" = none
  sorted : mg "sorted" = none
  sum : mg "sum" = none
  tuple : mg "tuple" = none
  zip : mg "zip" = none

section
variable {X : Cx} {B : Bc} {e a b c : Expr} {pos : Pos} {fa fb : EM D} {k : Nat}
theorem eAdd (ha : PE X a (RdB B fa)) (hb : PE X b (RdB B fb)) : PE X (.BinOp a .Add b pos) (RdE B (op2 addD fa fb)) := m_op2 sim_add (fun ta tb ha hb => pe_op op_addA ha hb) ha hb
theorem eSub (ha : PE X a (RdB B fa)) (hb : PE X b (RdB B fb)) : PE X (.BinOp a .Sub b pos) (RdE B (op2 subD fa fb)) := m_op2 sim_sub (fun ta tb ha hb => pe_op op_sub ha hb) ha hb
theorem eMul (ha : PE X a (RdB B fa)) (hb : PE X b (RdB B fb)) : PE X (.BinOp a .Mult b pos) (RdE B (op2 mulD fa fb)) := m_op2 sim_mul (fun ta tb ha hb => pe_op op_mul ha hb) ha hb
theorem eDiv (ha : PE X a (RdB B fa)) (hb : PE X b (RdB B fb)) : PE X (.BinOp a .FloorDiv b pos) (RdE B (op2 fdivD fa fb)) := m_op2 sim_fdiv (fun ta tb ha hb => pe_op op_fdivN ha hb) ha hb
theorem eMod (ha : PE X a (RdB B fa)) (hb : PE X b (RdB B fb)) : PE X (.BinOp a .Mod b pos) (RdE B (op2 modD fa fb)) := m_op2 sim_mod (fun ta tb ha hb => pe_op op_modN ha hb) ha hb
theorem ePow (ha : PE X a (RdB B fa)) (hb : PE X b (RdB B fb)) : PE X (.BinOp a .Pow b pos) (RdE B (op2 powD fa fb)) := m_op2 sim_pow (fun ta tb ha hb => pe_op op_pow ha hb) ha hb
theorem eNeg (ha : PE X a (RdB B fa)) : PE X (.UnaryOp .USub a pos) (RdE B (op1 negD fa)) := m_op1 sim_neg (fun ta ha => pe_un un_neg ha) ha
theorem eIx (ha : PE X a (RdB B fa)) (hb : PE X b (RdB B fb)) (hs : PlainIx b := by intro _ _; rfl) : PE X (.Subscript a b pos) (RdE B (op2 ixD fa fb)) := m_op2 sim_ix (fun ta tb ha hb => pe_ix ix_A ha hb hs) ha hb
theorem room65 (hr : Room k X.A) : X.A.units + 65 < cLine := by have := hr.un; omega
theorem room64 (hr : Room k X.A) : X.A.units + 64 < cLine := by have := hr.un; omega
/-! comparisons -/
theorem tEq (hr : Room k X.A) (ha : PE X a (RdB B fa)) (hb : PE X b (RdB B fb)) : PT X (.Compare a [.Eq] [b] pos) (RdT B (asB (op2 eqD fa fb))) := m_tcmp sim_eq (op_eqD (room64 hr)) ha hb (nomark _)
theorem tNe (hr : Room k X.A) (ha : PE X a (RdB B fa)) (hb : PE X b (RdB B fb)) : PT X (.Compare a [.NotEq] [b] pos) (RdT B (asB (op2 neD fa fb))) := m_tcmp sim_ne (op_neD (room64 hr)) ha hb (nomark _)
theorem tLt (ha : PE X a (RdB B fa)) (hb : PE X b (RdB B fb)) : PT X (.Compare a [.Lt] [b] pos) (RdT B (asB (op2 ltD fa fb))) := m_tcmp sim_lt op_lt ha hb (nomark _)
theorem tLe (ha : PE X a (RdB B fa)) (hb : PE X b (RdB B fb)) : PT X (.Compare a [.LtE] [b] pos) (RdT B (asB (op2 leD fa fb))) := m_tcmp sim_le op_le ha hb (nomark _)
theorem tGt (ha : PE X a (RdB B fa)) (hb : PE X b (RdB B fb)) : PT X (.Compare a [.Gt] [b] pos) (RdT B (asB (op2 gtD fa fb))) := m_tcmp sim_gt op_gt ha hb (nomark _)
theorem tGe (ha : PE X a (RdB B fa)) (hb : PE X b (RdB B fb)) : PT X (.Compare a [.GtE] [b] pos) (RdT B (asB (op2 geD fa fb))) := m_tcmp sim_ge op_ge ha hb (nomark _)
theorem tIn (hr : Room k X.A) (ha : PE X a (RdB B fa)) (hb : PE X b (RdB B fb)) (hm : behindInMarks .In b = false := by rfl) : PT X (.Compare a [.In] [b] pos) (RdT B (asB (op2 inD fa fb))) := m_tcmp sim_in (op_inB (room65 hr)) ha hb hm
theorem tNotIn (hr : Room k X.A) (ha : PE X a (RdB B fa)) (hb : PE X b (RdB B fb)) (hm : behindInMarks .NotIn b = false := by rfl) : PT X (.Compare a [.NotIn] [b] pos) (RdT B (asB (op2 notInD fa fb))) := m_tcmp sim_notIn (op_notInB (room65 hr)) ha hb hm
theorem eEq (hr : Room k X.A) (ha : PE X a (RdB B fa)) (hb : PE X b (RdB B fb)) : PE X (.Compare a [.Eq] [b] pos) (RdE B (op2 eqD fa fb)) := m_cmp sim_eq (op_eqD (room64 hr)) ha hb (nomark _)
theorem eNe (hr : Room k X.A) (ha : PE X a (RdB B fa)) (hb : PE X b (RdB B fb)) : PE X (.Compare a [.NotEq] [b] pos) (RdE B (op2 neD fa fb)) := m_cmp sim_ne (op_neD (room64 hr)) ha hb (nomark _)
theorem eLt (ha : PE X a (RdB B fa)) (hb : PE X b (RdB B fb)) : PE X (.Compare a [.Lt] [b] pos) (RdE B (op2 ltD fa fb)) := m_cmp sim_lt op_lt ha hb (nomark _)
theorem eLe (ha : PE X a (RdB B fa)) (hb : PE X b (RdB B fb)) : PE X (.Compare a [.LtE] [b] pos) (RdE B (op2 leD fa fb)) := m_cmp sim_le op_le ha hb (nomark _)
theorem eGt (ha : PE X a (RdB B fa)) (hb : PE X b (RdB B fb)) : PE X (.Compare a [.Gt] [b] pos) (RdE B (op2 gtD fa fb)) := m_cmp sim_gt op_gt ha hb (nomark _)
theorem eGe (ha : PE X a (RdB B fa)) (hb : PE X b (RdB B fb)) : PE X (.Compare a [.GtE] [b] pos) (RdE B (op2 geD fa fb)) := m_cmp sim_ge op_ge ha hb (nomark _)
theorem eIn (hr : Room k X.A) (ha : PE X a (RdB B fa)) (hb : PE X b (RdB B fb)) (hm : behindInMarks .In b = false := by rfl) : PE X (.Compare a [.In] [b] pos) (RdE B (op2 inD fa fb)) := m_cmp sim_in (op_inB (room65 hr)) ha hb hm
theorem eNotIn (hr : Room k X.A) (ha : PE X a (RdB B fa)) (hb : PE X b (RdB B fb)) (hm : behindInMarks .NotIn b = false := by rfl) : PE X (.Compare a [.NotIn] [b] pos) (RdE B (op2 notInD fa fb)) := m_cmp sim_notIn (op_notInB (room65 hr)) ha hb hm
theorem tIsN (ha : PE X a (RdB B fa)) (hb : PE X b (RdB B fb)) : PT X (.Compare a [.Is] [b] pos) (RdT B (asB (op2 isN2 fa fb))) := m_tcmp sim_isN op_isN ha hb (nomark _)
theorem eIsN (ha : PE X a (RdB B fa)) (hb : PE X b (RdB B fb)) : PE X (.Compare a [.Is] [b] pos) (RdE B (op2 isN2 fa fb)) := m_cmp sim_isN op_isN ha hb (nomark _)
/-! chains of two -/
variable {fc : EM D}
theorem tCh {op op' : CmpOp} {r r' : R2} {f f' : D → D → Option D} (hs : Sim2 B.g r f) (hs' : Sim2 B.g r' f') (ho : OpR X (compareOp op) r) (ho' : OpR X (compareOp op') r') (ha : PE X a (RdB B fa)) (hb : PE X b (RdB B fb)) (hc : PE X c (RdB B fc))
    (hm : lastMarks [op, op'] [b, c] = false := by with_unfolding_all rfl) : PT X (.Compare a [op, op'] [b, c] pos) (RdT B (asB (chM f f' fa fb fc))) := m_tch hs hs' (pt_chain ho ho' ha hb hc hm)
theorem eCh {op op' : CmpOp} {r r' : R2} {f f' : D → D → Option D} (hs : Sim2 B.g r f) (hs' : Sim2 B.g r' f') (ho : OpR X (compareOp op) r) (ho' : OpR X (compareOp op') r') (ha : PE X a (RdB B fa)) (hb : PE X b (RdB B fb)) (hc : PE X c (RdB B fc))
    (hm : lastMarks [op, op'] [b, c] = false := by with_unfolding_all rfl) : PE X (.Compare a [op, op'] [b, c] pos) (RdE B (chM f f' fa fb fc)) := m_ch hs hs' ho ho' (pe_chain ho ho' ha hb hc hm)
/-! and, or as tests -/
theorem tW {e : Expr} {f : EM Bool} (h : PW X e (RdT B f)) (hc : ∀ whole, isTrue e X.env whole = isTrue e X.env whole := by intro _; rfl) : PW X e (RdT B f) := h
end

/-! ### built-ins of one, of two things -/
section
variable {X : Cx} {B : Bc} {e a b : Expr} {p pos : Pos} {fa fb : EM D}
theorem eLen (hb : Bn X.mg) (ha : PE X a (RdB B fa)) (hg : Gl X "len" := by rfl) (he : starEach [a] X.env = (false, eval a X.env) :: starEach [] X.env := by rfl) (hpl : (backTo pos (starEach [] X.env)).any (·.1) = false := by rfl) :
    PE X (.Call (.Name "len" p) [a] [] pos) (RdE B (op1 lenD fa)) := m_op1 sim_len (fun ta ha => pe_callB call_len_seq hg hb.len PySem.boot_len (pa_cons ha pa_nil he) (he := he) (hpl := hpl)) ha
theorem eAbs (hb : Bn X.mg) (ha : PE X a (RdB B fa)) (hg : Gl X "abs" := by rfl) (he : starEach [a] X.env = (false, eval a X.env) :: starEach [] X.env := by rfl) (hpl : (backTo pos (starEach [] X.env)).any (·.1) = false := by rfl) :
    PE X (.Call (.Name "abs" p) [a] [] pos) (RdE B (op1 absD fa)) := m_op1 sim_abs (fun ta ha => pe_callB call_abs hg hb.abs (by first | exact PySem.boot_abs | exact PyProof.Rows.boot_abs | decide +kernel) (pa_cons ha pa_nil he) (he := he) (hpl := hpl)) ha
theorem eInt (hb : Bn X.mg) (ha : PE X a (RdB B fa)) (hg : Gl X "int" := by rfl) (he : starEach [a] X.env = (false, eval a X.env) :: starEach [] X.env := by rfl) (hpl : (backTo pos (starEach [] X.env)).any (·.1) = false := by rfl) :
    PE X (.Call (.Name "int" p) [a] [] pos) (RdE B (op1 intD fa)) := m_op1 sim_int (fun ta ha => pe_callTy call_int1 hg hb.int (by decide +kernel) (pa_cons ha pa_nil he) (he := he) (hpl := hpl)) ha
theorem eTuple (hb : Bn X.mg) (ha : PE X a (RdB B fa)) (hg : Gl X "tuple" := by rfl) (he : starEach [a] X.env = (false, eval a X.env) :: starEach [] X.env := by rfl) (hpl : (backTo pos (starEach [] X.env)).any (·.1) = false := by rfl) :
    PE X (.Call (.Name "tuple" p) [a] [] pos) (RdE B (op1 tupOf fa)) := m_op1 sim_tupOf (fun ta ha => pe_callTy call_tuple_of hg hb.tuple (by decide +kernel) (pa_cons ha pa_nil he) (he := he) (hpl := hpl)) ha
theorem fList (hb : Bn X.mg) (ha : PE X a (RdB B fa)) (hg : Gl X "list" := by rfl) (he : starEach [a] X.env = (false, eval a X.env) :: starEach [] X.env := by rfl) (hpl : (backTo pos (starEach [] X.env)).any (·.1) = false := by rfl) :
    PE X (.Call (.Name "list" p) [a] [] pos) (RdF B (opF1 items? fa)) := f_op1 simF_listOf (pe_callTy call_list_of hg hb.list (by decide +kernel) (pa_cons ha pa_nil he) (he := he) (hpl := hpl))
theorem eSum (hc : X.calm = true) (hb : Bn X.mg) (ha : PE X a (RdB B fa)) (hg : Gl X "sum" := by rfl) (he : starEach [a] X.env = (false, eval a X.env) :: starEach [] X.env := by rfl) (hpl : (backTo pos (starEach [] X.env)).any (·.1) = false := by rfl) :
    PE X (.Call (.Name "sum" p) [a] [] pos) (RdE B (op1 sumD fa)) := m_op1 sim_sum (fun ta ha => pe_callB (cr_sum hc) hg hb.sum (by decide +kernel) (pa_cons ha pa_nil he) (he := he) (hpl := hpl)) ha
theorem eMax2 (hc : X.calm = true) (hb : Bn X.mg) (h1 : PE X a (RdB B fa)) (h2 : PE X b (RdB B fb)) (hg : Gl X "max" := by rfl) (he : starEach [a, b] X.env = (false, eval a X.env) :: starEach [b] X.env := by rfl) (he2 : starEach [b] X.env = (false, eval b X.env) :: starEach [] X.env := by rfl) (hpl : (backTo pos (starEach [b] X.env)).any (·.1) = false := by rfl) :
    PE X (.Call (.Name "max" p) [a, b] [] pos) (RdE B (op2 max2D fa fb)) := m_op2 sim_max2 (fun ta tb ha hb' => pe_callB (call_max2 hc) hg hb.max (by decide +kernel) (pa_cons ha (pa_cons hb' pa_nil he2) he) (he := he) (hpl := hpl)) h1 h2
theorem eMin2 (hc : X.calm = true) (hb : Bn X.mg) (h1 : PE X a (RdB B fa)) (h2 : PE X b (RdB B fb)) (hg : Gl X "min" := by rfl) (he : starEach [a, b] X.env = (false, eval a X.env) :: starEach [b] X.env := by rfl) (he2 : starEach [b] X.env = (false, eval b X.env) :: starEach [] X.env := by rfl) (hpl : (backTo pos (starEach [b] X.env)).any (·.1) = false := by rfl) :
    PE X (.Call (.Name "min" p) [a, b] [] pos) (RdE B (op2 min2D fa fb)) := m_op2 sim_min2 (fun ta tb ha hb' => pe_callB (call_min2 hc) hg hb.min (by decide +kernel) (pa_cons ha (pa_cons hb' pa_nil he2) he) (he := he) (hpl := hpl)) h1 h2
end
end L2.Fl

namespace L2.Fl
open PySem PySem.Spec PyProof.Rows

/-! ### the dice -/
section
variable {X : Cx} {B : Bc} {e a b c o : Expr} {p pos apos cpos tpos : Pos} {st : Stmt} {fa fb : EM D}
def w3 (ω : W3) : Nat → Option Int
  | 0 => some ω.1
  | 1 => some ω.2.1
  | 2 => some ω.2.2
  | _ => none
def w3set (ω : W3) (i : Int) : Nat → Option W3
  | 0 => some (i, ω.2.1, ω.2.2)
  | 1 => some (ω.1, i, ω.2.2)
  | 2 => some (ω.1, ω.2.1, i)
  | _ => none
def isTok (ρ : Fr) (i : Nat) : Bool := match ρ[i]? with
  | some (.val (.tok 0)) => true
  | _ => false
def diceM (i k : Nat) : EM D := fun ρ ω => if isTok ρ i then (match w3 ω k with
  | some v => .ok (.int v) ρ ω
  | none => .bad) else .bad
theorem RD.tok_inv {tk : Nat → Option V} {Z : Addr → Prop} {H : Hp} {n : Nat} {v : V} (r : RD tk Z H (.tok n) v) : tk n = some v := by
  cases r with
  | tok h => exact h
  | obj _ ro => cases ro
theorem isTok_some {ρ : Fr} {i : Nat} (h : isTok ρ i = true) : ρ[i]? = some (.val (.tok 0)) := by
  unfold isTok at h
  split at h
  · assumption
  · cases h
theorem m_dice {i k : Nat} (ht : B.g.tk 0 = B.g.pd.map V.ref) (ho : PE X o (tVar i)) (hk : PE X a (tC (.int (k : Int)))) (hs : PlainIx a := by intro _ _; rfl) : PE X (.Subscript o a pos) (RdE B (diceM i k)) := PE.imp (pe_ix ix_list ho hk hs) fun σ H Q ⟨Z, ρ, ω, j, h⟩ => by
  unfold diceM at h
  by_cases hi : isTok ρ i = true
  · rw [if_pos hi] at h
    obtain ⟨v, h1, h2⟩ := j.val i _ (isTok_some hi)
    have e := h2.tok_inv
    rw [ht] at e
    obtain ⟨qd, eq, e⟩ := Option.map_eq_some_iff.mp e
    subst e
    refine ⟨.ref qd, h1, ?_⟩
    have hd := SqL.of (K := X.K) (j.good.dice qd eq)
    have go : ∀ v, w3 ω k = some v → rIxL X.K (.ref qd) (.int (k : Int)) H Q := fun v hv => by
      rw [hv] at h
      refine ⟨qd, _, (k : Int), .int v, rfl, rfl, hd, atI_nat ?_, h Z _ H .refl (fun _ z => z) j (.int v)⟩
      match k, hv with
      | 0, hv => cases hv; rfl
      | 1, hv => cases hv; rfl
      | 2, hv => cases hv; rfl
    cases hv : w3 ω k with
    | none => rw [hv] at h; exact h.elim
    | some v => exact go v hv
  · rw [if_neg hi] at h
    exact h.elim
theorem J.roll {Z : Addr → Prop} {ρ : Fr} {σ : L2.St} {H : Hp} {ω ω' : W3} (j : J B Z ρ σ H ω) {qd : Addr} (eq : B.g.pd = some qd) : J B Z ρ σ (upd H qd (.lst [.int ω'.1, .int ω'.2.1, .int ω'.2.2])) ω' := by
  have kz : ∀ q u, Z q → H q = some u → upd H qd (.lst [.int ω'.1, .int ω'.2.1, .int ω'.2.2]) q = some u := fun q u z h => by rw [upd_ne (fun (e : q = qd) => (j.good.zs q z).1 (by rw [eq, e]))]; exact h
  refine ⟨⟨fun q z => ?_, fun q' e' => by rw [eq] at e'; cases e'; exact upd_same, fun P hP => ?_⟩, ⟨fun q u h n f => ?_, fun q h => ?_⟩, j.z0, j.zn, j.len, fun k e ek => ?_, fun k e ek => ?_, fun q rr => ⟨(j.res q rr).1, fun z => ?_⟩, j.sep⟩
  · obtain ⟨n, u, h, f⟩ := j.good.zs q z
    exact ⟨n, u, kz q u z h, f⟩
  · obtain ⟨ps, h, t⟩ := j.good.tabs P hP
    refine ⟨ps, ?_, t⟩
    rw [upd_ne]
    · exact h
    · rintro rfl
      rw [j.good.dice _ eq] at h; cases h
  · rw [upd_ne (fun (e : q = qd) => n (by rw [eq, e]))]; exact j.ext.keep q u h n f
  · by_cases hq : q = qd
    · rw [hq, upd_same] at h; cases h
    · rw [upd_ne hq] at h; exact j.ext.dom q h
  · obtain ⟨v, q1, q2⟩ := j.val k e ek
    exact ⟨v, q1, q2.mono (fun _ z => z) kz⟩
  · obtain ⟨q, q1, q2, q3, q4, q5, q6⟩ := j.own k e ek
    exact ⟨q, q1, q2.mono (fun _ z => z) kz (fun u h => by rw [upd_ne (fun (e : q = qd) => q4 (by rw [eq, e]))]; exact h), q3, q4, q5, q6⟩
  · by_cases hq : q = qd
    · rw [hq, upd_same] at z; cases z
    · rw [upd_ne hq] at z; exact (j.res q rr).2 z
/-- dice[k] = e -/
def diceS (i k : Nat) (f : EM D) : SM := fun ρ ω => (f ρ ω).stm fun d ρ ω => match d with
  | .int v => if isTok ρ i then (match w3set ω v k with
    | some ω' => .nx ρ ω'
    | none => .bad) else .bad
  | _ => .bad
theorem s_dice {i k : Nat} {f : EM D} (ht : B.g.tk 0 = B.g.pd.map V.ref) (h : PS X st (tAsg (RdE B f) (gSub (tVar i) (tC (.int (k : Int))) rSetL))) : PS X st (RdS B (diceS i k f)) := PS.imp h fun D σ H ⟨Z, ρ, ω, j, q⟩ => by
  refine ⟨Z, ρ, ω, j, ?_⟩
  unfold diceS at q
  cases ea : f ρ ω with
  | bad => simp only [ea, Out.stm] at q; exact q
  | exc c ω' => simp only [ea, Out.stm] at q; exact q
  | ok d ρ1 ω1 =>
    simp only [ea, Out.stm] at q
    intro Z1 v H1 e1 z1 j1 r1
    cases d with
    | int n =>
      simp only at q
      have := BR.int (g := B.g) (.inl r1)
      subst this
      by_cases hi : isTok ρ1 i = true
      · rw [if_pos hi] at q
        obtain ⟨v, h1, h2⟩ := j1.val i _ (isTok_some hi)
        have e := h2.tok_inv
        rw [ht] at e
        obtain ⟨qd, eq, e⟩ := Option.map_eq_some_iff.mp e
        subst e
        have hd := j1.good.dice qd eq
        refine ⟨.ref qd, h1, ?_⟩
        have go : ∀ (kk : Nat) (xs' : List V) (ω' : W3), w3set ω1 n k = some ω' → ixN 3 (k : Int) = some kk → ([V.int ω1.1, .int ω1.2.1, .int ω1.2.2].set kk (.int n)) = [V.int ω'.1, .int ω'.2.1, .int ω'.2.2] → rSetL (.ref qd) (.int (k : Int)) (.int n) H1 fun H3 => D.nx σ H3 := fun kk xs' ω' hw hk hx => by
          rw [hw] at q
          refine ⟨qd, _, (k : Int), kk, rfl, rfl, hd, hk, ?_⟩
          rw [hx]
          have kz : Kp Z1 H1 Z1 (upd H1 qd (.lst [.int ω'.1, .int ω'.2.1, .int ω'.2.2])) := ⟨fun _ z => z, fun q u z h => by rw [upd_ne (fun (e : q = qd) => (j1.good.zs q z).1 (by rw [eq, e]))]; exact h⟩
          exact q Z1 σ _ ((Kp.of j.good z1 e1).trans kz) (j1.roll (ω' := ω') eq)
        match k, q, go with
        | 0, q, go => exact go 0 [] _ rfl rfl rfl
        | 1, q, go => exact go 1 [] _ rfl rfl rfl
        | 2, q, go => exact go 2 [] _ rfl rfl rfl
        | k + 3, q, go => exact q.elim
      · rw [if_neg hi] at q
        exact q.elim
    | _ => exact q.elim

/-! ### slices -/
def cutD (xs : List D) (lo hi : Option Int) : List D := (xs.drop (HT.sIx xs.length 0 lo)).take (HT.sIx xs.length xs.length hi - HT.sIx xs.length 0 lo)
theorem RDs.cut {tk : Nat → Option V} {Z : Addr → Prop} {H : Hp} {ds : List D} {vs : List V} (r : RDs tk Z H ds vs) (lo hi : Option Int) : RDs tk Z H (cutD ds lo hi) (cutV vs lo hi) := by
  unfold cutD cutV
  rw [r.length]
  exact (r.drop _).take _
def partM (f : EM D) : EM (Option Int) := fun ρ ω => (f ρ ω).andThen fun d ρ ω => match d with
  | .int i => .ok (some i) ρ ω
  | _ => .bad
def noM : EM (Option Int) := fun ρ ω => .ok none ρ ω
def RdO (B : Bc) (f : EM (Option Int)) : TO := fun σ H Q => ∃ Z ρ ω, J B Z ρ σ H ω ∧ match f ρ ω with
  | .ok d ρ' ω' => ∀ (Z' : Addr → Prop) (H' : Hp), Ext B.g H H' → (∀ p, Z p → Z' p) → J B Z' ρ' σ H' ω' → Q d H'
  | .exc c ω' => B.Ex c ω'
  | .bad => False
theorem PO.imp {o : Option Expr} {t t' : TO} (h : PO X o t) (i : ∀ σ H Q, t' σ H Q → t σ H Q) : PO X o t' := ⟨fun pins s σ H Q I q => h.run pins s σ H Q I (i σ H Q q)⟩
theorem o_no : PO X none (RdO B noM) := PO.imp po_none fun σ H Q ⟨Z, ρ, ω, j, h⟩ => h Z H .refl (fun _ z => z) j
theorem o_some {f : EM D} (h : PE X e (RdB B f)) : PO X (some e) (RdO B (partM f)) := PO.imp (po_some h) fun σ H Q ⟨Z, ρ, ω, j, h⟩ => by
  refine ⟨Z, ρ, ω, j, ?_⟩
  unfold partM at h
  cases ea : f ρ ω with
  | bad => simp only [ea, Out.andThen] at h
  | exc c ω' => simp only [ea, Out.andThen] at h; exact h
  | ok d ρ1 ω1 =>
    simp only [ea, Out.andThen] at h
    intro Z1 v H1 e1 z1 j1 r1
    cases d with
    | int i =>
      have := r1.int
      subst this
      exact ⟨i, rfl, h Z1 H1 e1 z1 j1⟩
    | _ => exact h.elim
def slM (f : EM D) (l u : EM (Option Int)) : EM D := fun ρ ω => (f ρ ω).andThen fun d ρ ω => (l ρ ω).andThen fun lo ρ ω => (u ρ ω).andThen fun hi => match d with
  | .lst xs => optM (some (.lst (cutD xs lo hi)))
  | .tup xs => optM (some (.tup (cutD xs lo hi)))
  | _ => fun _ _ => .bad
theorem whole_cut {α : Type} (xs : List α) (lo hi : Option Int) (h : HT.sIx xs.length 0 lo = 0 ∧ HT.sIx xs.length xs.length hi = xs.length) : (xs.drop (HT.sIx xs.length 0 lo)).take (HT.sIx xs.length xs.length hi - HT.sIx xs.length 0 lo) = xs := by
  rw [h.1, h.2]; simp
theorem eSl {l u : Option Expr} {p2 : Pos} {f : EM D} {fl fu : EM (Option Int)} (he : PE X e (RdB B f)) (hl : PO X l (RdO B fl)) (hu : PO X u (RdO B fu)) : PE X (.Subscript e (.Slice l u none p2) pos) (RdE B (slM f fl fu)) :=
  PE.imp (pe_slice (sl_list.or sl_tupA) he hl hu) fun σ H Q ⟨Z, ρ, ω, j, h⟩ => by
  refine ⟨Z, ρ, ω, j, ?_⟩
  unfold slM at h
  cases ea : f ρ ω with
  | bad => simp only [ea, Out.andThen] at h
  | exc c ω' => simp only [ea, Out.andThen] at h; exact h
  | ok d ρ1 ω1 =>
    simp only [ea, Out.andThen] at h
    intro Z1 x H1 e1 z1 j1 r1
    refine ⟨Z1, ρ1, ω1, j1, ?_⟩
    cases el : fl ρ1 ω1 with
    | bad => simp only [el] at h
    | exc c ω' => simp only [el] at h; exact h
    | ok lo ρ2 ω2 =>
      simp only [el] at h
      intro Z2 H2 e2 z2 j2
      refine ⟨Z2, ρ2, ω2, j2, ?_⟩
      cases eu : fu ρ2 ω2 with
      | bad => simp only [eu] at h
      | exc c ω' => simp only [eu] at h; exact h
      | ok hi ρ3 ω3 =>
        simp only [eu] at h
        intro Z3 H3 e3 z3 j3
        have r3 : BR B.g Z3 H3 d x := (r1.ext j1.good z2 e2).ext j2.good z3 e3
        have e03 : Ext B.g H H3 := e1.trans (e2.trans e3)
        have z03 : ∀ p, Z p → Z3 p := fun p z => z3 p (z2 p (z1 p z))
        cases d with
        | lst xs =>
          simp only [optM] at h
          obtain ⟨p, vs, rfl, hp, rs⟩ := r3.lst
          refine .inl ⟨p, vs, rfl, SqL.of hp, fun q hq => ?_⟩
          have gr := grow_new (g := B.g) (Z := Z3) (o := .lst (cutV vs lo hi)) hq fix_lst
          exact h _ _ _ (e03.trans gr.ext) (fun p z => .inl (z03 p z)) (j3.grow gr) (rd_newL hq (rs.cut lo hi))
        | tup xs =>
          simp only [optM] at h
          obtain ⟨p, vs, rfl, zp, hp, rs⟩ := r3.tup
          refine .inr ⟨p, vs, rfl, SqT.of hp, fun hw => ?_, fun _ q hq => ?_⟩
          · rw [← rs.length] at hw
            have ec : cutD xs lo hi = xs := whole_cut xs lo hi hw
            rw [ec] at h
            exact h Z3 _ H3 e03 z03 j3 (.tup zp hp rs)
          · have gr := grow_new (g := B.g) (Z := Z3) (o := .tup (cutV vs lo hi)) hq fix_tup
            exact h _ _ _ (e03.trans gr.ext) (fun p z => .inl (z03 p z)) (j3.grow gr) (rd_newT hq (rs.cut lo hi))
        | _ => exact h.elim

/-! ### a, b = x, y -/
def parS (i k : Nat) (f : EM (List D)) : SM := fun ρ ω => (f ρ ω).stm fun ds ρ ω => match ds with
  | [x, y] => .nx ((ρ.set i (.val x)).set k (.val y)) ω
  | _ => .bad
theorem s_par {i k : Nat} {f : EM (List D)} (h : PS X st (tPar i k (RdA B f))) : PS X st (RdS B (parS i k f)) := PS.imp h fun D σ H ⟨Z, ρ, ω, j, q⟩ => by
  refine ⟨Z, ρ, ω, j, ?_⟩
  unfold parS at q
  cases ea : f ρ ω with
  | bad => simp only [ea, Out.stm] at q; exact q
  | exc c ω' => simp only [ea, Out.stm] at q; exact q
  | ok ds ρ1 ω1 =>
    simp only [ea, Out.stm] at q
    intro Z1 vs H1 e1 z1 j1 r1
    split at q
    · cases r1 with
      | cons ra r1 =>
        cases r1 with
        | cons rb r1 =>
          cases r1
          exact ⟨_, _, rfl, q Z1 _ H1 (.of j.good z1 e1) ((j1.setVal ra).setVal rb)⟩
    · exact q.elim

/-! ### methods -/
theorem sApp {i : Nat} {f : EM D} (ho : PE X o (tVar i)) (ha : PE X a (RdE B f)) (hbase : attributeBase o "append" X.env (eval o X.env) = eval o X.env := by rfl)
    (hfew : ((backTo cpos (starEach [a] X.env)).all (fun x => !x.1) && (backToKw cpos (keywordEach [] X.env)).all (fun x => x.1.isSome)
      && decide (([a] : List Expr).length + ([] : List Keyword).length + (if ([] : List Keyword).isEmpty then 0 else 1) < 30)) = true := by rfl)
    (hline : (apos.endLine == cpos.line) = true := by rfl) (hs : starEach [a] X.env = (false, eval a X.env) :: starEach [] X.env := by rfl) (hplain : (backTo cpos (starEach [] X.env)).any (·.1) = false := by rfl)
    (hsw : swapsWith (.Call (.Attribute o "append" apos) [a] [] cpos) none pos.line X.env = pure false := by rfl) :
    PS X (.Expr (.Call (.Attribute o "append" apos) [a] [] cpos) pos) (RdS B (appS i f)) :=
  s_app (ps_expr (pe_bm PySem.F.plainAttrs_list PySem.F.slot_list_append PySem.F.type_list_append mt_append ho (pa_cons ha pa_nil hs) hbase hfew hline hs hplain) hsw)
theorem sPopDrop {i : Nat} (ho : PE X o (tVar i)) (hbase : attributeBase o "pop" X.env (eval o X.env) = eval o X.env := by rfl) (hline : (apos.endLine == cpos.line) = true := by rfl)
    (hsw : swapsWith (.Call (.Attribute o "pop" apos) [] [] cpos) none pos.line X.env = pure false := by rfl) :
    PS X (.Expr (.Call (.Attribute o "pop" apos) [] [] cpos) pos) (RdS B (popDropS i)) :=
  s_popDrop (ps_expr (pe_bm0 PySem.F.plainAttrs_list PySem.F.slot_list_pop PySem.F.type_list_pop mt_pop ho hbase hline) hsw)
end
end L2.Fl

namespace L2.Fl
open PySem PySem.Spec PyProof.Rows

/-! ### a dict comprehension of two clauses, no tests -/
section
variable {prog : Program} {w : World} {A : Around} {R : Result → Shared → Prop} {s : Shared} {kx vx ta ia tb ib : Expr} {sc : Scope} {pos : Pos} {it : Value} {acc : Addr} {env : Env}
abbrev DC2 (kx vx ta ia tb ib : Expr) (sc : Scope) (pos : Pos) : Expr := .DictComp kx vx [⟨ta, ia, [], 0⟩, ⟨tb, ib, [], 0⟩] sc pos
theorem dc2_loop0 (hs : ∀ x, foldedSetIterable ib env x = pure x) (J : Nat → Shared → Prop)
    (turn : ∀ n s, J n s → wpAny (model prog w) A (pyNext it) (fun r s1 => match r with
      | none => R (.ok .next) s1
      | some v => wpAny (model prog w) A (letOwnedTupleGo ta it v) (fun _ s2 => wpAny (model prog w) A (assign ta env v) (fun _ s3 => wpAny (model prog w) A (eval ib env) (fun x s4 => wpAny (model prog w) A (pyIter x) (fun y s5 =>
          codeAny (model prog w) A (.compStart (DC2 kx vx ta ia tb ib sc pos) 1 y (.ref acc) env) (fun r z => match r with
            | .ok _ => ∃ m, m < n ∧ J m z
            | .error _ => False) s5) (fun _ _ => False) s4) (fun _ _ => False) s3) (fun _ _ => False) s2) (fun _ _ => False) s1) (fun _ _ => False) s)
    (n : Nat) (h : J n s) : codeAny (model prog w) A (.compLoop (DC2 kx vx ta ia tb ib sc pos) 0 it (.ref acc) env) R s := by
  refine codeAny_loop rfl J (fun n z hz => ?_) n h
  show wpAny _ A ((compTurn (DC2 kx vx ta ia tb ib sc pos) 0 it (.ref acc) env).onRaise (fun x => do noteFrame x env; theTreesLotGoes x)) _ _ z
  have eq : compTurn (DC2 kx vx ta ia tb ib sc pos) 0 it (.ref acc) env = (do
      standAt ia.pos
      match ← pyNext it with
      | none => pure (.done .next)
      | some v =>
        letOwnedTupleGo ta it v
        assign ta env v
        let mut ok := true
        for q in ([] : List Expr) do
          if ok then ok ← isTrue q env (eval q env)
        if ok then
          let x ← eval ib env
          standAt ib.pos
          let x ← foldedSetIterable ib env x
          let _ ← runOwn (.compStart (DC2 kx vx ta ia tb ib sc pos) 1 (← holding [x] (pyIter x)) (.ref acc) env) env
        again (.compLoop (DC2 kx vx ta ia tb ib sc pos) 0 it (.ref acc) env)) := by rfl
  refine wpAny_noted ?_
  rw [eq]
  refine wpAny_bind (wpAny_standAt (wpAny_bind (wpAny_mono (turn n z hz) (fun r s1 q1 => ?_) fun _ _ q => q.elim)))
  match r, q1 with
  | none, q1 => exact wpAny_pure q1
  | some v, q1 =>
    refine wpAny_bind (wpAny_mono q1 (fun _ s2 q2 => wpAny_bind (wpAny_mono q2 (fun _ s3 q3 => ?_) fun _ _ q => q.elim)) fun _ _ q => q.elim)
    refine wpAny_bind (wpAny_tests_nil (wpAny_bind (wpAny_mono q3 (fun x s4 q4 => ?_) fun _ _ q => q.elim)))
    refine wpAny_bind (wpAny_standAt (wpAny_bind (wpAny_of_eq (hs x) (wpAny_bind (wpAny_holding (wpAny_mono q4 (fun y s5 q5 => ?_) fun _ _ q => q.elim))))))
    refine wpAny_bind (wpAny_runOwn ?_)
    rw [Around.mark_none]
    refine codeAny_mono q5 fun r z q6 => ?_
    match r, q6 with
    | .ok f, q6 => first | exact wpAny_pure ⟨rfl, q6⟩ | exact wpAny_bind (wpAny_pure (wpAny_pure ⟨rfl, q6⟩))
    | .error e, q6 => exact q6.elim
theorem dc2_loop1 (J : Nat → Shared → Prop)
    (turn : ∀ n s, J n s → wpAny (model prog w) A (pyNext it) (fun r s1 => match r with
      | none => R (.ok .next) s1
      | some v => wpAny (model prog w) A (letOwnedTupleGo tb it v) (fun _ s2 => wpAny (model prog w) A (assign tb env v) (fun _ s3 => wpAny (model prog w) A (eval kx env) (fun x s4 => wpAny (model prog w) A (eval vx env) (fun y s5 =>
          wpAny (model prog w) A (dictSet acc x y) (fun _ z => ∃ m, m < n ∧ J m z) (fun _ _ => False) s5) (fun _ _ => False) s4) (fun _ _ => False) s3) (fun _ _ => False) s2) (fun _ _ => False) s1) (fun _ _ => False) s)
    (n : Nat) (h : J n s) : codeAny (model prog w) A (.compLoop (DC2 kx vx ta ia tb ib sc pos) 1 it (.ref acc) env) R s := by
  refine codeAny_loop rfl J (fun n z hz => ?_) n h
  show wpAny _ A ((compTurn (DC2 kx vx ta ia tb ib sc pos) 1 it (.ref acc) env).onRaise (fun x => do noteFrame x env; theTreesLotGoes x)) _ _ z
  have eq : compTurn (DC2 kx vx ta ia tb ib sc pos) 1 it (.ref acc) env = (do
      standAt ib.pos
      match ← pyNext it with
      | none => pure (.done .next)
      | some v =>
        letOwnedTupleGo tb it v
        assign tb env v
        let mut ok := true
        for q in ([] : List Expr) do
          if ok then ok ← isTrue q env (eval q env)
        if ok then
          (do
            let y1 ← eval kx env
            let y2 ← holding [y1] (eval vx env)
            standAt { kx.pos with endLine := vx.pos.endLine, endCol := vx.pos.endCol }
            holding [y1, y2] (dictSet acc y1 y2))
        again (.compLoop (DC2 kx vx ta ia tb ib sc pos) 1 it (.ref acc) env)) := by rfl
  refine wpAny_noted ?_
  rw [eq]
  refine wpAny_bind (wpAny_standAt (wpAny_bind (wpAny_mono (turn n z hz) (fun r s1 q1 => ?_) fun _ _ q => q.elim)))
  match r, q1 with
  | none, q1 => exact wpAny_pure q1
  | some v, q1 =>
    refine wpAny_bind (wpAny_mono q1 (fun _ s2 q2 => wpAny_bind (wpAny_mono q2 (fun _ s3 q3 => ?_) fun _ _ q => q.elim)) fun _ _ q => q.elim)
    refine wpAny_bind (wpAny_tests_nil (wpAny_bind (wpAny_bind (wpAny_mono q3 (fun x s4 q4 => ?_) fun _ _ q => q.elim))))
    exact wpAny_bind (wpAny_holding (wpAny_mono q4 (fun y s5 q5 => wpAny_bind (wpAny_standAt (wpAny_holding (wpAny_mono q5 (fun _ z q6 => wpAny_pure ⟨rfl, q6⟩) fun _ _ q => q.elim)))) fun _ _ q => q.elim))
theorem dc2_start1 (h0 : codeAny (model prog w) A (.compLoop (DC2 kx vx ta ia tb ib sc pos) 1 it (.ref acc) env) R s)
    (h : wpAny (model prog w) A (pyIter it) (fun y z => codeAny (model prog w) A (.compLoop (DC2 kx vx ta ia tb ib sc pos) 1 y (.ref acc) env) R z) (fun _ _ => False) s) :
    codeAny (model prog w) A (.compStart (DC2 kx vx ta ia tb ib sc pos) 1 it (.ref acc) env) R s := by
  refine codeAny_of_tree ?_
  show wpAny _ _ ((compStart (DC2 kx vx ta ia tb ib sc pos) 1 it (.ref acc) env).onRaise (fun x => do noteFrame x env; standAt theWindowsPlace)) _ _ s
  refine wpAny_notedAt ?_
  unfold compStart
  show wpAny _ _ (ask >>= _) _ _ s
  refine wpAny_bind (wpAny_askSetting (wpAny_ite ?_))
  split
  · first
      | exact wpAny_pure ⟨rfl, h0⟩
      | exact wpAny_bind (wpAny_pure (wpAny_pure ⟨rfl, h0⟩))
  · refine wpAny_bind (wpAny_rule ?_)
    show wpAny _ _ (standAt ib.pos >>= _) _ _ s
    exact wpAny_bind (wpAny_standAt (wpAny_bind (wpAny_mono h (fun y z q => wpAny_pure ⟨rfl, q⟩) fun _ _ x => x.elim)))
end
section
variable {X : Cx}
/-- {k: v for ta in ia for tb in ib} -/
def tDc2 (wi : TI) (g : TG) (wi1 : TI) (g1 : TG) (tk tv : TE) (vs vs1 : List Nat) : TE := fun σ H Q => wi σ H fun It H1 => ∀ D, H1 D = none → ∃ W : Nat → Nat → Hp → Prop, (∃ m, W 0 m (upd H1 D (.dK []))) ∧ ∀ i m H, W i m H →
  (It.stop i H ∧ Q (.ref D) H) ∨ (It.go i H ∧ ∃ Nx : Hp → Prop, (∀ H', Nx H' → ∃ m', m' < m ∧ W (i + 1) m' H') ∧ ∀ x H', It.yld i H x H' → g x (wipe σ vs) H' fun σ2 H2 => wipe σ2 vs = wipe σ vs ∧
    wi1 σ2 H2 fun It1 H4 => ∃ W1 : Nat → Nat → Hp → Prop, (∃ m, W1 0 m H4) ∧ ∀ j k H, W1 j k H →
      (It1.stop j H ∧ Nx H) ∨ (It1.go j H ∧ ∃ Nx1 : Hp → Prop, (∀ H', Nx1 H' → ∃ k', k' < k ∧ W1 (j + 1) k' H') ∧ ∀ x H', It1.yld j H x H' → g1 x (wipe σ2 vs1) H' fun σ3 H5 => wipe σ3 vs1 = wipe σ2 vs1 ∧
        tk σ3 H5 fun y H7 => tv σ3 H7 fun z H8 => ∃ kvs k, y = kV k ∧ H8 D = some (.dK kvs) ∧ kvs.length < sizeLine ∧ Nx1 (upd H8 D (.dK (putK kvs k z)))))
theorem dc2_core {pins : List (Addr × Obj)} {s : Shared} {σ : L2.St} {H : Hp} {Q : VK} {pos' : Pos} {use : Option (Value → Sem Unit)} {Qf : Value → Shared → Prop} {kx vx ta ia tb ib : Expr} {sc : Scope} {own : List (Str × Nat)} {vs1 : List Nat} {pos : Pos} {wi wi1 : TI} {g g1 : TG} {tk tv : TE} (hc : X.calm = true) (hN : X.N.Nodup) (I : Inv X pins σ H s) (hi : PI X ta ia wi) (ok : BlkOk X.N X.env.scope sc own) (hv : ∀ i ∈ vs1, i ∈ own.map (·.2))
    (hg : ∀ (s : Shared) (H : Hp) (C : Addr) (cl : List (Str × Addr)) (fp : List Addr), PG (X.blk s H sc (compEnvC sc cl C X.env) fp) ta g)
    (hi1 : ∀ (s : Shared) (H : Hp) (C : Addr) (cl : List (Str × Addr)) (fp : List Addr), PI (X.blk s H sc (compEnvC sc cl C X.env) fp) tb ib wi1)
    (hg1 : ∀ (s : Shared) (H : Hp) (C : Addr) (cl : List (Str × Addr)) (fp : List Addr), PG (X.blk s H sc (compEnvC sc cl C X.env) fp) tb g1)
    (hk : ∀ (s : Shared) (H : Hp) (C : Addr) (cl : List (Str × Addr)) (fp : List Addr), PE (X.blk s H sc (compEnvC sc cl C X.env) fp) kx tk)
    (he : ∀ (s : Shared) (H : Hp) (C : Addr) (cl : List (Str × Addr)) (fp : List Addr), PE (X.blk s H sc (compEnvC sc cl C X.env) fp) vx tv)
    (hs : ∀ x, foldedSetIterable ia X.env x = pure x) (hs1 : ∀ env x, foldedSetIterable ib env x = pure x) (h : tDc2 wi g wi1 g1 tk tv (own.map (·.2)) vs1 σ H Q)
    (hRR : ∀ D C z m H', Inv X pins σ H' z → Q (.ref D) H' → z.heap.Ns C m → FpOk X pins H' C → compPost (model X.prog X.w) X.A X.xe use Qf (.ref D) C (.ok .next) z) :
    wpAny (model X.prog X.w) X.A (comprehension (DC2 kx vx ta ia tb ib sc pos) sc X.env pos' newDict false (eval ia X.env) use) Qf X.xe s := by
  have hfree : ∀ y ∈ sc.names, y.2 = .free → ∃ c, X.env.cells.lookup y.1 = some c := fun y hy e => (ok.free y hy e).elim (fun k => I.ok.has _ (.inl k)) fun k => I.ok.has _ (.inr k)
  refine wpAny_comprehension_free (use := use) rfl hs (closure_ok hfree) ok.kind (fun y hy e => by rw [ok.uniq y hy, e]) (thn (hi.run pins s σ H _ I h) fun v1 s1 w1 => thn w1 fun v2 s2 w2 => ?_)
  obtain ⟨it, fp, tn, It0, H2, rfl, I2, T, st2, f2, q⟩ := w2
  refine wpAny_newObj_type (newEnv_comp ?_)
  generalize hD : s2.heap.objs.size = D
  obtain ⟨W, ⟨m0, w0⟩, turn⟩ := q D (I2.hok.fresh (Nat.le_of_eq hD))
  have I3 : Inv X pins σ (upd H2 D (.dK [])) { s2 with heap := s2.heap.push { cls := .type "dict", data := .dict #[] } } := by
    refine I2.laid (t' := s2.toks) (fun b o e => Heap.get?_push_of_some _ e) (Nat.le_of_eq hD) ?_
    rw [← hD]; exact dk_empty s2.heap I2.big
  generalize hs3 : ({ s2 with heap := s2.heap.push { cls := .type "dict", data := .dict #[] } } : Shared) = s3 at I3
  have h3 : s3.heap = s2.heap.push { cls := .type "dict", data := .dict #[] } := by rw [← hs3]
  have f3 : ∀ b ∈ fp, FpOk X pins (upd H2 D (.dK [])) b ∧ b < s3.heap.objs.size := fun b hb => by
    obtain ⟨o, e, _⟩ := T.obj _ _ st2 b hb
    have hlt := Heap.lt_size e
    exact ⟨⟨by rw [upd_ne (by rw [← hD]; exact Nat.ne_of_lt hlt)]; exact (f2 b hb).1, (f2 b hb).2⟩, by rw [h3, Heap.size_push]; exact Nat.lt_succ_of_lt hlt⟩
  have st3 : tn 0 s3.heap := T.keep _ _ _ st2 fun b _ o e => by rw [h3]; exact Heap.get?_push_of_some _ e
  have I4 := block_start I3 ok hN f3
  let cells := cellsFrom (s3.heap.objs.size + 1) sc.names (cloFrom X.env.cells sc.names [])
  have pg := hg s3 (upd H2 D (.dK [])) s3.heap.objs.size cells fp
  have pk := hk s3 (upd H2 D (.dK [])) s3.heap.objs.size cells fp
  have pe := he s3 (upd H2 D (.dK [])) s3.heap.objs.size cells fp
  have pi1 := hi1 s3 (upd H2 D (.dK [])) s3.heap.objs.size cells fp
  have pg1 := hg1 s3 (upd H2 D (.dK [])) s3.heap.objs.size cells fp
  show codeAny _ _ (.compStart (DC2 kx vx ta ia tb ib sc pos) 0 (.ref it) (.ref D) (compEnvC sc cells s3.heap.objs.size X.env)) (compPost (model X.prog X.w) X.A X.xe use Qf (.ref D) s3.heap.objs.size) { s3 with heap := pushCells (s3.heap.push { cls := .type "dict", data := .dict #[] }) sc.names }
  have nfp : ∀ b ∈ fp, (upd H2 D (.dK [])) b = none := fun b hb => (f3 b hb).1.1
  change Inv (X.blk s3 (upd H2 D (.dK [])) sc (compEnvC sc cells s3.heap.objs.size X.env) fp) [] _ _ _ at I4
  generalize hce : compEnvC sc cells s3.heap.objs.size X.env = ce at I4 pg pk pe pi1 pg1 ⊢
  have cL : ce.locals = s3.heap.objs.size := by subst hce; rfl
  generalize hH3 : upd H2 D (.dK []) = H3 at I3 I4 pg pk pe pi1 pg1 w0 nfp f3
  generalize hs4 : ({ s3 with heap := pushCells (s3.heap.push { cls := .type "dict", data := .dict #[] }) sc.names } : Shared) = s4 at I4 ⊢
  have st4 : tn 0 s4.heap := T.keep _ _ _ st3 fun b _ o e => by rw [← hs4]; exact pushCells_keeps _ _ _ _ (Heap.get?_push_of_some _ e)
  have stat : ∀ {σ' : L2.St} {H' : Hp} {s' : Shared}, Inv (X.blk s3 H3 sc ce fp) [] σ' H' s' → (∀ b ∈ fp, H' b = none) → ∀ b ∈ fp, FpOk (X.blk s3 H3 sc ce fp) [] H' b := fun {σ' H' s'} I' hn b hb =>
    ⟨hn b hb, (I'.ok.exf b hb).1, I'.ok.exfs b hb, .inl hb, fun x c e => (I'.ok.exf b hb).2 x c e, fun p hp => nomatch (show p ∈ ([] : List (Addr × Obj)) from hp)⟩
  generalize hσw : wipe σ (own.map (·.2)) = σw at I4 turn
  have lσ : σw.length = σ.length := by rw [← hσw]; exact wipe_length _ _
  have loop : codeAny (model X.prog X.w) X.A (.compLoop (DC2 kx vx ta ia tb ib sc pos) 0 (.ref it) (.ref D) ce) (compPost (model X.prog X.w) X.A X.xe use Qf (.ref D) s3.heap.objs.size) s4 := by
    refine dc2_loop0 (hs1 ce) (fun n z => ∃ i H', Inv (X.blk s3 H3 sc ce fp) [] σw H' z ∧ tn i z.heap ∧ (∀ b ∈ fp, H' b = none) ∧ W i n H') ?_ m0 ⟨0, H3, I4, st4, nfp, w0⟩
    rintro n s5 ⟨i, H5, I5, st5, n5, w5⟩
    rcases turn i n H5 w5 with ⟨stop, qq⟩ | ⟨go, Nx, hNx, step⟩
    · refine thnF (T.done (X.blk s3 H3 sc ce fp) rfl rfl rfl hc i [] s5 _ H5 (fun _ _ => False) I5 (stat I5 n5) st5 stop) fun r s6 ⟨hr, I6⟩ => ?_
      subst hr
      have I7 : Inv X pins σ H5 s6 := I3.call' (ch := fp) I6.os I6.base I6.hok I6.bare fun b hb => ⟨(f3 b hb).1.2.2.2.1, (f3 b hb).1.2.1, (f3 b hb).1.2.2.2.2.1, (f3 b hb).1.2.2.2.2.2⟩
      have nC : H5 s3.heap.objs.size = none := by
        have z : H5 ce.locals = none := I6.free
        rw [cL] at z; exact z
      obtain ⟨m, hn, _⟩ := I6.loc
      have hn : s6.heap.Ns ce.locals m := hn
      rw [cL] at hn
      exact hRR D s3.heap.objs.size s6 m H5 I7 qq hn (I3.fpOk (Nat.le_refl _) nC)
    · refine thnF (T.item (X.blk s3 H3 sc ce fp) rfl rfl rfl hc i [] s5 _ H5 (fun _ _ => False) I5 (stat I5 n5) st5 go) fun r s6 ⟨u, hr, h6⟩ => ?_
      subst hr
      refine thnF h6 fun _ s7 ⟨x, H7, I7, r7, y7, st7, n7⟩ => ?_
      refine thnF (pg.run _ s7 _ H7 x u _ (I7.pinned (stat I7 n7) (T.obj _ _ st7)) r7 (step x H7 y7)) fun _ s8 ⟨σ8, H8, I8, hw8, q8⟩ => ?_
      refine thnF (pi1.run _ s8 σ8 H8 _ I8 q8) fun xv s10 hx => thnF hx fun itv s11 h11 => ?_
      obtain ⟨it1, fp1, tn1, J1, H11, rfl, I11, T1, st11, f11, W1, ⟨m1, w1⟩, turn1⟩ := h11
      have stat1 : ∀ {H' : Hp}, (∀ b ∈ fp1, H' b = none) → ∀ b ∈ fp1, FpOk (X.blk s3 H3 sc ce fp) ([] ++ pinsAt fp s7.heap) H' b := fun hn b hb => ⟨hn b hb, (f11 b hb).2⟩
      have l8 : σw.length = σ8.length := by rw [← hw8, wipe_length]
      have k8 : ∀ (j : Nat) v, σw[j]? = some (some v) → (wipe σ8 vs1)[j]? = some (some v) := fun j v e => by
        rw [← hw8] at e
        obtain ⟨e1, e2⟩ := wipe_some e
        rw [wipe_out fun z => e2 (hv j z)]; exact e1
      have fin : ∀ {z : Shared} {H' : Hp}, Inv (X.blk s3 H3 sc ce fp) ([] ++ pinsAt fp s7.heap) (wipe σ8 vs1) H' z → Nx H' → ∃ m, m < n ∧ ∃ i H', Inv (X.blk s3 H3 sc ce fp) [] σw H' z ∧ tn i z.heap ∧ (∀ b ∈ fp, H' b = none) ∧ W i m H' := fun {z H'} I' nx => by
        obtain ⟨m', hm, w'⟩ := hNx H' nx
        have pin' : ∀ b ∈ fp, ∀ o, s7.heap.get? b = some o → z.heap.get? b = some o ∧ H' b = none := fun b hb o e => by
          have y := I'.pin (b, o) (List.mem_append_right _ (List.mem_append_right _ (mem_pinsAt hb e)))
          exact ⟨y.1, y.2.1⟩
        refine ⟨m', hm, i + 1, H', (I'.unpinned (pins := [])).weak (l8.trans (wipe_length σ8 vs1).symm) k8, T.keep _ _ _ st7 fun b hb o e => (pin' b hb o e).1, fun b hb => ?_, w'⟩
        obtain ⟨o, e, _⟩ := T.obj _ _ st7 b hb
        exact (pin' b hb o e).2
      have loop1 : codeAny (model X.prog X.w) X.A (.compLoop (DC2 kx vx ta ia tb ib sc pos) 1 (.ref it1) (.ref D) ce) (fun r z => match r with
          | .ok _ => ∃ m, m < n ∧ ∃ i H', Inv (X.blk s3 H3 sc ce fp) [] σw H' z ∧ tn i z.heap ∧ (∀ b ∈ fp, H' b = none) ∧ W i m H'
          | .error _ => False) s11 := by
        refine dc2_loop1 (fun k z => ∃ j H', Inv (X.blk s3 H3 sc ce fp) ([] ++ pinsAt fp s7.heap) (wipe σ8 vs1) H' z ∧ tn1 j z.heap ∧ (∀ b ∈ fp1, H' b = none) ∧ W1 j k H') ?_ m1 ⟨0, H11, I11.weak (wipe_length _ _) (fun j v e => (wipe_some e).1), st11, fun b hb => (f11 b hb).1, w1⟩
        rintro k s12 ⟨j, H12, I12, st12, n12, w12⟩
        rcases turn1 j k H12 w12 with ⟨stop1, nx1⟩ | ⟨go1, Nx1, hNx1, step1⟩
        · refine thnF (T1.done (X.blk s3 H3 sc ce fp) rfl rfl rfl hc j _ s12 (wipe σ8 vs1) H12 (fun _ _ => False) I12 (stat1 n12) st12 stop1) fun r s13 ⟨hr, I13⟩ => ?_
          subst hr
          exact fin I13 nx1
        · refine thnF (T1.item (X.blk s3 H3 sc ce fp) rfl rfl rfl hc j _ s12 (wipe σ8 vs1) H12 (fun _ _ => False) I12 (stat1 n12) st12 go1) fun r s13 ⟨u1, hr, h13⟩ => ?_
          subst hr
          refine thnF h13 fun _ s14 ⟨x1, H14, I14, r14, y14, st14, n14⟩ => ?_
          refine thnF (pg1.run _ s14 (wipe σ8 vs1) H14 x1 u1 _ (I14.pinned (stat1 n14) (T1.obj _ _ st14)) r14 (step1 x1 H14 y14)) fun _ s15 ⟨σ15, H15, I15, hw15, q15⟩ => ?_
          refine thnF (pk.run _ s15 σ15 H15 _ I15 q15) fun zk s16 ⟨yk, H16, I16, r16, q16⟩ => thnF (pe.run _ s16 σ15 H16 _ I16 q16) fun ze s17 ⟨yv, H17, I17, r17, kvs, kk, ek, hD17, hz17, nx⟩ => ?_
          subst ek
          refine d_dictSet (X := X.blk s3 H3 sc ce fp) I17 hD17 hz17 r16 r17 fun s18 I18 => ?_
          obtain ⟨m', hm, w'⟩ := hNx1 _ nx
          have pin' : ∀ b ∈ fp1, ∀ o, s14.heap.get? b = some o → s18.heap.get? b = some o ∧ (upd H17 D (.dK (putK kvs kk yv))) b = none := fun b hb o e => by
            have y := I18.pin (b, o) (List.mem_append_right _ (List.mem_append_right _ (mem_pinsAt hb e)))
            exact ⟨y.1, y.2.1⟩
          refine ⟨m', hm, j + 1, _, I18.unpinned.weak (by rw [← hw15, wipe_length]) (fun j v e => by rw [← hw15] at e; exact (wipe_some e).1), T1.keep _ _ _ st14 fun b hb o e => (pin' b hb o e).1, fun b hb => ?_, w'⟩
          obtain ⟨o, e, _⟩ := T1.obj _ _ st14 b hb
          exact (pin' b hb o e).2
      exact dc2_start1 loop1 (T1.self X.A 0 _ _ _ st11 loop1)
  exact codeAny_compStart_dict loop (T.self X.A 0 _ _ _ st4 loop)
theorem pe_dc2 {kx vx ta ia tb ib : Expr} {sc : Scope} {own : List (Str × Nat)} {vs1 : List Nat} {pos : Pos} {wi wi1 : TI} {g g1 : TG} {tk tv : TE} (hc : X.calm = true) (hN : X.N.Nodup) (hi : PI X ta ia wi) (ok : BlkOk X.N X.env.scope sc own) (hv : ∀ i ∈ vs1, i ∈ own.map (·.2))
    (hg : ∀ (s : Shared) (H : Hp) (C : Addr) (cl : List (Str × Addr)) (fp : List Addr), PG (X.blk s H sc (compEnvC sc cl C X.env) fp) ta g)
    (hi1 : ∀ (s : Shared) (H : Hp) (C : Addr) (cl : List (Str × Addr)) (fp : List Addr), PI (X.blk s H sc (compEnvC sc cl C X.env) fp) tb ib wi1)
    (hg1 : ∀ (s : Shared) (H : Hp) (C : Addr) (cl : List (Str × Addr)) (fp : List Addr), PG (X.blk s H sc (compEnvC sc cl C X.env) fp) tb g1)
    (hk : ∀ (s : Shared) (H : Hp) (C : Addr) (cl : List (Str × Addr)) (fp : List Addr), PE (X.blk s H sc (compEnvC sc cl C X.env) fp) kx tk)
    (he : ∀ (s : Shared) (H : Hp) (C : Addr) (cl : List (Str × Addr)) (fp : List Addr), PE (X.blk s H sc (compEnvC sc cl C X.env) fp) vx tv)
    (hs : ∀ x, foldedSetIterable ia X.env x = pure x := by intro _; rfl) (hs1 : ∀ env x, foldedSetIterable ib env x = pure x := by intro _ _; rfl) :
    PE X (DC2 kx vx ta ia tb ib sc pos) (tDc2 wi g wi1 g1 tk tv (own.map (·.2)) vs1) := ⟨fun pins s σ H Q I h => by
  rw [arm_eval_DictComp]
  refine dc2_core hc hN I hi ok hv hg hi1 hg1 hk he hs hs1 h fun D C z m H' I' q hn f => ⟨m, hn, fun h'' sb => ?_⟩
  obtain ⟨f0, f1, fa, fb, fc, fd⟩ := f
  exact ⟨.ref D, H', I'.turned (t' := z.toks) (fun b o hb e => (sb.2 b hb).trans e) f0 f1 fb fc fd, rfl, q⟩⟩
theorem ps_setDc2 {i : Nat} {y : Str} {py spos : Pos} {kx vx ta ia tb ib : Expr} {sc : Scope} {own : List (Str × Nat)} {vs1 : List Nat} {pos : Pos} {wi wi1 : TI} {g g1 : TG} {tk tv : TE} (hc : X.calm = true) (hN : X.N.Nodup) (hy : X.N[i]? = some y) (hyl : X.env.scope.names.lookup y = some .local)
    (hsw : swapsWith (DC2 kx vx ta ia tb ib sc pos) (some (.Name y py)) spos.line X.env = pure true) (hi : PI X ta ia wi) (ok : BlkOk X.N X.env.scope sc own) (hv : ∀ i ∈ vs1, i ∈ own.map (·.2))
    (hg : ∀ (s : Shared) (H : Hp) (C : Addr) (cl : List (Str × Addr)) (fp : List Addr), PG (X.blk s H sc (compEnvC sc cl C X.env) fp) ta g)
    (hi1 : ∀ (s : Shared) (H : Hp) (C : Addr) (cl : List (Str × Addr)) (fp : List Addr), PI (X.blk s H sc (compEnvC sc cl C X.env) fp) tb ib wi1)
    (hg1 : ∀ (s : Shared) (H : Hp) (C : Addr) (cl : List (Str × Addr)) (fp : List Addr), PG (X.blk s H sc (compEnvC sc cl C X.env) fp) tb g1)
    (hk : ∀ (s : Shared) (H : Hp) (C : Addr) (cl : List (Str × Addr)) (fp : List Addr), PE (X.blk s H sc (compEnvC sc cl C X.env) fp) kx tk)
    (he : ∀ (s : Shared) (H : Hp) (C : Addr) (cl : List (Str × Addr)) (fp : List Addr), PE (X.blk s H sc (compEnvC sc cl C X.env) fp) vx tv)
    (hs : ∀ x, foldedSetIterable ia X.env x = pure x := by intro _; rfl) (hs1 : ∀ env x, foldedSetIterable ib env x = pure x := by intro _ _; rfl) :
    PS X (.Assign [.Name y py] (DC2 kx vx ta ia tb ib sc pos) spos) (tAsg (tDc2 wi g wi1 g1 tk tv (own.map (·.2)) vs1) (gName i)) := ⟨fun pins s σ H D I h => by
  rw [exec_Assign_Name_used _ _ _ _ hsw]
  refine wpAny_bind (wpAny_standAt (wpAny_bind ?_))
  show wpAny _ X.A (do let _ ← comprehension (DC2 kx vx ta ia tb ib sc pos) sc X.env (firstIterPos [⟨ta, ia, [], 0⟩, ⟨tb, ib, [], 0⟩] pos) newDict false (eval ia X.env) (some (assign (.Name y py) X.env))) _ _ s
  have h : tDc2 wi g wi1 g1 tk tv (own.map (·.2)) vs1 σ H (fun x H1 => gName i x σ H1 D.nx) := h
  refine wpAny_bind (thn (dc2_core (Qf := fun _ z => SP X pins D .next z) hc hN I hi ok hv hg hi1 hg1 hk he hs hs1 h fun L C z m H' I' q hn f => ?_) fun _ z hq => wpAny_pure (wpAny_pure hq))
  show wpAny _ _ (assign (.Name y py) X.env (.ref L)) _ _ _
  refine wpAny_assign_Name (store_ok2 (v := V.ref L) I' hN hy (.inl hyl) rfl (fun s2 I2 ⟨a, sb, ha⟩ => ?_) (.inr hyl))
  obtain ⟨f0, f1, fa, fb, fc, fd⟩ := f
  have haC : C ≠ a := ha.elim (fun z => by rw [z]; exact f1) fun z e => fc y a z e.symm
  exact ⟨m, hn.sameBut sb haC, fun h3 sb3 => ⟨_, H', I2.turned (t' := s2.toks) (fun b o hb e => (sb3.2 b hb).trans e) f0 f1 fb fc fd, q⟩⟩⟩
end
end L2.Fl

namespace L2.Fl
open PySem PySem.Spec PyProof.Rows

/-! ### a loop that gathers at Dn, any kind -/
/-- as Ext, but Dn may change -/
structure ExtD (g : Gd) (Dn : Addr) (H H' : Hp) : Prop where
  keep : ∀ p o, H p = some o → g.pd ≠ some p → p ≠ Dn → Fix o → H' p = some o
  dom : ∀ p, H' p = none → p ≠ Dn → H p = none
theorem ExtD.refl {g : Gd} {Dn : Addr} {H : Hp} : ExtD g Dn H H := ⟨fun _ _ h _ _ _ => h, fun _ h _ => h⟩
theorem ExtD.trans {g : Gd} {Dn : Addr} {H H1 H2 : Hp} (a : ExtD g Dn H H1) (b : ExtD g Dn H1 H2) : ExtD g Dn H H2 := ⟨fun p o h n m f => b.keep p o (a.keep p o h n m f) n m f, fun p h m => a.dom p (b.dom p h m) m⟩
theorem Ext.toD {g : Gd} {Dn : Addr} {H H' : Hp} (a : Ext g H H') : ExtD g Dn H H' := ⟨fun p o h n _ f => a.keep p o h n f, fun p h _ => a.dom p h⟩
theorem ExtD.upd {g : Gd} {Dn : Addr} {H : Hp} {o : HO} : ExtD g Dn H (upd H Dn o) := ⟨fun p o' h _ m _ => by rw [upd_ne m]; exact h, fun p h m => by rw [upd_ne m] at h; exact h⟩
theorem ExtD.after {g : Gd} {Dn : Addr} {H0 H H' : Hp} (a : Ext g H0 H) (b : ExtD g Dn H H') (h0 : H0 Dn = none) : Ext g H0 H' := ⟨fun p o h n f => by
  have m : p ≠ Dn := ne_of_none h h0
  exact b.keep p o (a.keep p o h n f) n m f, fun p h => by
  by_cases m : p = Dn
  · rw [m]; exact h0
  · exact a.dom p (b.dom p h m)⟩
abbrev AccR (α : Type) := (Addr → Prop) → Hp → α → Prop
def loopA {α : Type} (vs : List Nat) (step : D → α → EM α) : List D → α → EM α
  | [], a => fun ρ ω => .ok a ρ ω
  | d :: ds, a => fun ρ ω => (step d a ρ ω).thenB fun a' ρ' ω' => loopA vs step ds a' (wipeF vs ρ') ω'
/-- what behind a turn is to hold -/
def SPost {α : Type} (B : Bc) (Dn : Addr) (AR : AccR α) (vs : List Nat) (σw : L2.St) (Z : Addr → Prop) (H : Hp) (o : Out α) (Nx : Hp → Prop) : Prop := match o with
  | .ok a ρ ω => ∀ (Z' : Addr → Prop) (H' : Hp), J B Z' (wipeF vs ρ) σw H' ω → AR Z' H' a → Kp Z H Z' H' → ExtD B.g Dn H H' → Nx H'
  | _ => False
def LPost {α : Type} (B : Bc) (Dn : Addr) (AR : AccR α) (σw : L2.St) (Z : Addr → Prop) (H : Hp) (o : Out α) (Qd : Hp → Prop) : Prop := match o with
  | .ok a ρ ω => ∀ (Z' : Addr → Prop) (H' : Hp), J B Z' ρ σw H' ω → AR Z' H' a → Kp Z H Z' H' → ExtD B.g Dn H H' → Qd H'
  | _ => False
theorem LPost.kp {α : Type} {B : Bc} {Dn : Addr} {AR : AccR α} {σw : L2.St} {Z Z' : Addr → Prop} {H H' : Hp} {o : Out α} {Qd : Hp → Prop} (k : Kp Z H Z' H') (e : ExtD B.g Dn H H') (q : LPost B Dn AR σw Z H o Qd) : LPost B Dn AR σw Z' H' o Qd := by
  cases o with
  | ok a ρ ω => exact fun Z2 H2 j a k2 e2 => q Z2 H2 j a (k.trans k2) (e.trans e2)
  | exc c ω => exact q
  | bad => exact q
theorem loop_gen {α : Type} {B : Bc} {Dn : Addr} {AR : AccR α} {vs : List Nat} {σw : L2.St} {step : D → α → EM α} {ds : List D} {It : L2.It} {Qd : Hp → Prop} {Za : Addr → Prop} {Ha : Hp}
    (w : Wk B.g (fun Z H => Kp Za Ha Z H ∧ ExtD B.g Dn Ha H) It ds) (hAR : ∀ Z H Z' H' a, Grow B.g Z H Z' H' → AR Z H a → AR Z' H' a)
    (Bd : V → Hp → (Hp → Prop) → Prop)
    (hB : ∀ (d : D) (x : V) (Z : Addr → Prop) (H : Hp) (ρ : Fr) (ω : W3) (a : α) (Nx : Hp → Prop), J B Z ρ σw H ω → AR Z H a → RD B.g.tk Z H d x → SPost B Dn AR vs σw Z H (step d a ρ ω) Nx → Bd x H Nx)
    {ρ : Fr} {ω : W3} {a : α} (ja : J B Za ρ σw Ha ω) (ra : AR Za Ha a) (hq : LPost B Dn AR σw Za Ha (loopA vs step ds a ρ ω) Qd) :
    ∃ W : Nat → Nat → Hp → Prop, (∃ m, W 0 m Ha) ∧ ∀ i m H, W i m H → (It.stop i H ∧ Qd H) ∨ (It.go i H ∧ ∃ Nx : Hp → Prop, (∀ H', Nx H' → ∃ m', m' < m ∧ W (i + 1) m' H') ∧ ∀ x H', It.yld i H x H' → Bd x H' Nx) := by
  obtain ⟨G, Y, w1, w2, w3⟩ := w
  let Pv : Nat → Hp → Prop := fun i H => ∃ Z ρ ω a, J B Z ρ σw H ω ∧ AR Z H a ∧ Kp Za Ha Z H ∧ ExtD B.g Dn Ha H ∧ LPost B Dn AR σw Z H (loopA vs step (ds.drop i) a ρ ω) Qd
  refine ⟨fun i m H => m = ds.length - i ∧ i ≤ ds.length ∧ Pv i H, ⟨ds.length, by simp, Nat.zero_le _, Za, ρ, ω, a, ja, ra, .refl, .refl, by rw [List.drop_zero]; exact hq⟩, ?_⟩
  rintro i m H ⟨rfl, hi, Z, ρ, ω, a, j, ra, kp, ex, hq⟩
  have hG := w2 Z H ⟨kp, ex⟩
  by_cases hlt : i < ds.length
  · refine .inr ⟨w1.goes i H hlt hG, Pv (i + 1), fun H' p' => ⟨ds.length - (i + 1), by omega, rfl, hlt, p'⟩, fun x H' y => ?_⟩
    obtain ⟨Z3, d, gr, hd, rd⟩ := w3 i H x H' Z ω hlt j.good ⟨kp, ex⟩ (w1.yields i H x H' hlt hG y)
    have hd' : ds.drop i = d :: ds.drop (i + 1) := by
      rw [List.drop_eq_getElem_cons hlt]
      obtain ⟨_, e⟩ := List.getElem?_eq_some_iff.mp hd
      rw [e]
    rw [hd'] at hq
    unfold loopA at hq
    refine hB d x Z3 H' ρ ω a _ (j.grow gr) (hAR _ _ _ _ _ gr ra) rd ?_
    have k3 : Kp Z H Z3 H' := .of j.good gr.sub gr.ext
    cases es : step d a ρ ω with
    | ok a' ρ' ω' =>
      simp only [es, Out.thenB] at hq
      exact fun Z' H2 j' ra' k' e' => ⟨Z', _, ω', a', j', ra', kp.trans (k3.trans k'), ex.trans (gr.ext.toD.trans e'), hq.kp (k3.trans k') (gr.ext.toD.trans e')⟩
    | exc c ω' => simp only [es, Out.thenB] at hq; exact hq
    | bad => simp only [es, Out.thenB] at hq; exact hq
  · have hi' : i = ds.length := by omega
    subst hi'
    rw [List.drop_length] at hq
    exact .inl ⟨w1.stops H hG, hq Z H j ra .refl .refl⟩

/-! ### dicts whose keys are numbers or texts -/
def sameK (a : D) (k : Key) : Bool := match a, k with
  | .int i, .inl j => decide (i = j)
  | .str s, .inr t => decide (s = t)
  | _, _ => false
def keyOf : D → Option Key
  | .int i => some (.inl i)
  | .str s => some (.inr s)
  | _ => none
def putKD (ks : List (D × D)) (k : Key) (d : D) : List (D × D) := if ks.any (fun kv => sameK kv.1 k) then ks.map (fun kv => if sameK kv.1 k then (kv.1, d) else kv) else ks ++ [(kD k, d)]
theorem sameK_kD (k' k : Key) : sameK (kD k') k = decide (k' = k) := by
  cases k' <;> cases k <;> simp [kD, sameK]
section
variable {tk : Nat → Option V} {Z : Addr → Prop} {H : Hp}
theorem RK.any {k : Key} : ∀ {ks : List (D × D)} {kvs : List (Key × V)}, RK tk Z H ks kvs → ks.any (fun kv => sameK kv.1 k) = kvs.any fun kv => decide (kv.1 = k)
  | _, _, .nil => rfl
  | _, _, .cons r t => by simp only [List.any_cons, sameK_kD, RK.any t]
theorem RK.mapPut {k : Key} {d : D} {v : V} (r : RD tk Z H d v) : ∀ {ks : List (D × D)} {kvs : List (Key × V)}, RK tk Z H ks kvs → RK tk Z H (ks.map fun kv => if sameK kv.1 k then (kv.1, d) else kv) (kvs.map fun kv => if kv.1 = k then (kv.1, v) else kv)
  | _, _, .nil => .nil
  | _, _, .cons (k := k') r' t => by
    simp only [List.map_cons, sameK_kD]
    by_cases e : k' = k
    · rw [decide_eq_true e, if_pos rfl, if_pos e]
      exact .cons r (RK.mapPut r t)
    · rw [decide_eq_false e, if_neg (by simp), if_neg e]
      exact .cons r' (RK.mapPut r t)
theorem RK.app {k : Key} {d : D} {v : V} (r : RD tk Z H d v) : ∀ {ks : List (D × D)} {kvs : List (Key × V)}, RK tk Z H ks kvs → RK tk Z H (ks ++ [(kD k, d)]) (kvs ++ [(k, v)])
  | _, _, .nil => .cons r .nil
  | _, _, .cons r' t => .cons r' (RK.app r t)
theorem RK.put {k : Key} {d : D} {v : V} {ks : List (D × D)} {kvs : List (Key × V)} (r : RD tk Z H d v) (t : RK tk Z H ks kvs) : RK tk Z H (putKD ks k d) (putK kvs k v) := by
  unfold putKD putK
  rw [t.any]
  by_cases h : (kvs.any fun kv => decide (kv.1 = k)) = true
  · rw [if_pos h, if_pos h]; exact RK.mapPut r t
  · rw [if_neg h, if_neg h]; exact RK.app r t
theorem RK.length : ∀ {ks : List (D × D)} {kvs : List (Key × V)}, RK tk Z H ks kvs → ks.length = kvs.length
  | _, _, .nil => rfl
  | _, _, .cons _ t => congrArg (· + 1) t.length
theorem RD.key {d : D} {v : V} {k : Key} (r : RD tk Z H d v) (h : keyOf d = some k) : v = kV k := by
  cases d with
  | int i =>
    cases h
    cases r with
    | int _ => rfl
    | obj _ ro => cases ro
  | str i =>
    cases h
    cases r with
    | str _ => rfl
    | obj _ ro => cases ro
  | _ => cases h
end
/-- the dict at Dn -/
def AK (tk : Nat → Option V) (Dn : Addr) : AccR (List (D × D)) := fun Z H ks => ∃ kvs, H Dn = some (.dK kvs) ∧ RK tk Z H ks kvs
theorem AK.grow {g : Gd} {Dn : Addr} {Z Z' : Addr → Prop} {H H' : Hp} {ks : List (D × D)} (gr : Grow g Z H Z' H') (a : AK g.tk Dn Z H ks) : AK g.tk Dn Z' H' ks := by
  obtain ⟨kvs, h, r⟩ := a
  exact ⟨kvs, gr.keep _ _ h, r.mono gr.sub fun p o _ h => gr.keep p o h⟩
def stepK (t : TM) (fk fv : EM D) : D → List (D × D) → EM (List (D × D)) := fun d ks ρ ω => match t d ρ with
  | none => .bad
  | some ρ1 => (fk ρ1 ω).thenB fun x ρ2 ω2 => (fv ρ2 ω2).thenB fun y ρ3 ω3 => match keyOf x with
    | some k => if ks.length < LIM then .ok (putKD ks k y) ρ3 ω3 else .bad
    | none => .bad
section
variable {B : Bc} {R : Addr → Prop} {Dn : Addr} {vs slots : List Nat} {σw : L2.St} {t : TM} {fk fv : EM D}
theorem stepK_ok (hR : R Dn) (h0 : B.H0 Dn = none) (np : B.g.pd ≠ some Dn) (hsl : ∀ i ∈ slots, i ∈ vs) (hw0 : wipe σw vs = σw) (d : D) (x : V) (Z : Addr → Prop) (H : Hp) (ρ : Fr) (ω : W3) (a : List (D × D)) (Nx : Hp → Prop)
    (j : J (B.blk R) Z ρ σw H ω) (ra : AK B.g.tk Dn Z H a) (rd : RD B.g.tk Z H d x) (hq : SPost (B.blk R) Dn (AK B.g.tk Dn) vs σw Z H (stepK t fk fv d a ρ ω) Nx) :
    ExG B t slots x σw H fun σ2 H2 => wipe σ2 vs = wipe σw vs ∧ ExE B fk σ2 H2 fun y H4 => ExE B fv σ2 H4 fun z H5 => ∃ kvs k, y = kV k ∧ H5 Dn = some (.dK kvs) ∧ kvs.length < sizeLine ∧ Nx (upd H5 Dn (.dK (putK kvs k z))) := by
  unfold stepK at hq
  refine ⟨R, Z, ρ, ω, d, j, rd, ?_⟩
  cases et : t d ρ with
  | none => simp only [et] at hq; exact hq
  | some ρ4 =>
    simp only [et] at hq
    intro σ4 h4 l4 j4
    have hw4 : wipe σ4 vs = wipe σw vs := by
      rw [hw0]
      exact (wipe_eq (fun k hk => by rw [hw0]; exact h4 k fun z => hk (hsl k z)) (by rw [hw0]; exact l4)).trans hw0
    refine ⟨hw4, R, Z, ρ4, ω, j4, ?_⟩
    cases ek : fk ρ4 ω with
    | bad => simp only [ek, Out.thenB] at hq; exact hq
    | exc c ω' => simp only [ek, Out.thenB] at hq; exact hq.elim
    | ok dk ρ5 ω5 =>
      simp only [ek, Out.thenB] at hq
      intro Z5 yk H5 x5 z5 j5 r5
      refine ⟨R, Z5, ρ5, ω5, j5, ?_⟩
      cases ev : fv ρ5 ω5 with
      | bad => simp only [ev] at hq; exact hq
      | exc c ω' => simp only [ev] at hq; exact hq.elim
      | ok dv ρ6 ω6 =>
        simp only [ev] at hq
        intro Z6 yv H6 x6 z6 j6 r6
        cases eo : keyOf dk with
        | none => simp only [eo] at hq; exact hq.elim
        | some k =>
          simp only [eo] at hq
          by_cases hl : a.length < LIM
          · simp only [hl, if_true] at hq
            obtain ⟨kvs, hk, rk⟩ := ra
            have ex : Ext B.g H H6 := x5.trans x6
            have hk6 := ex.keep _ _ hk np fix_dK
            have kp6 : Kp Z H Z6 H6 := (Kp.of j4.good z5 x5).trans (.of j5.good z6 x6)
            have rk6 : RK B.g.tk Z6 H6 a kvs := rk.mono kp6.sub kp6.keep
            have nz : ¬ Z6 Dn := (j6.res Dn (.inr hR)).1
            refine ⟨kvs, k, r5.key eo, hk6, by rw [← rk.length, ← lim_eq]; exact hl, hq Z6 _ ?_ ⟨_, upd_same, ((rk6.put r6).mono (kp_upd (H := H6) (o := .dK (putK kvs k yv)) nz).sub (kp_upd (H := H6) nz).keep)⟩ (kp6.trans (kp_upd nz)) (ex.toD.trans .upd)⟩
            have := (j6.updR (B := B.blk R) (o := .dK (putK kvs k yv)) (.inr hR) h0 np hk6 fix_dK).wipe vs
            rw [hw4, hw0] at this
            exact this
          · simp only [hl, if_false] at hq
            exact hq.elim
theorem wipe_in {σ : L2.St} {vs vs1 : List Nat} (h : ∀ i ∈ vs1, i ∈ vs) : wipe (wipe σ vs1) vs = wipe σ vs := wipe_eq (fun j hj => by rw [wipe_out hj, wipe_out fun z => hj (h j z)]) (by rw [wipe_length, wipe_length])
end
def step2K (vs1 : List Nat) (t : TM) (it1 : EM (List D)) (t1 : TM) (fk fv : EM D) : D → List (D × D) → EM (List (D × D)) := fun d ks ρ ω => match t d ρ with
  | none => .bad
  | some ρ1 => (it1 ρ1 ω).thenB fun ds1 ρ2 ω2 => loopA vs1 (stepK t1 fk fv) ds1 ks (wipeF vs1 ρ2) ω2
def dc2M (vs vs1 : List Nat) (it : EM (List D)) (t : TM) (it1 : EM (List D)) (t1 : TM) (fk fv : EM D) : EM D := fun ρ ω => (it ρ ω).andThen fun ds ρ1 ω1 =>
  if noOwn vs ρ1 then (loopA vs (step2K vs1 t it1 t1 fk fv) ds [] (wipeF vs ρ1) ω1).thenB fun ks ρ2 ω2 => .ok (.dct ks) (restF vs ρ1 ρ2) ω2 else .bad
section
variable {X : Cx} {B : Bc}
/-- the second source, for some reserved set, frozen -/
def ExIf (B : Bc) (f : EM (List D)) : TI := fun σ H Q => ∃ R, RdI (B.blk R) f σ H Q
theorem x_if {tg iter : Expr} {f : EM (List D)} (h : ∀ R, PI X tg iter (RdI (B.blk R) f)) : PI X tg iter (ExIf B f) := ⟨fun pins s σ H Q I ⟨R, q⟩ => (h R).run pins s σ H Q I q⟩
theorem i_dc2 {it it1 : EM (List D)} {vs vs1 sl sl1 : List Nat} {t t1 : TM} {fk fv : EM D} (hsl : ∀ i ∈ sl, i ∈ vs) (hsl1 : ∀ i ∈ sl1, i ∈ vs1) (hv : ∀ i ∈ vs1, i ∈ vs) : ∀ σ H Q, RdE B (dc2M vs vs1 it t it1 t1 fk fv) σ H Q →
    tDc2 (RdI B it) (ExG B t sl) (ExIf B it1) (ExG B t1 sl1) (ExE B fk) (ExE B fv) vs vs1 σ H Q := fun σ H Q ⟨Z, ρ, ω, j, h⟩ => by
  refine ⟨Z, ρ, ω, j, ?_⟩
  unfold dc2M at h
  cases ea : it ρ ω with
  | bad => simp only [ea, Out.andThen] at h
  | exc c ω' => simp only [ea, Out.andThen] at h; exact h
  | ok ds ρ1 ω1 =>
    simp only [ea, Out.andThen] at h
    intro Z1 H1 It e1 z1 j1 w Dn hD
    by_cases hno : noOwn vs ρ1 = true
    · simp only [hno, if_true] at h
      obtain ⟨n1, n2, n3, n5, n4⟩ := fresh_of j1 hD
      have gr : Grow B.g Z1 H1 Z1 (upd H1 Dn (.dK [])) := grow_new0 hD
      have ja : J (B.blk (· = Dn)) Z1 (wipeF vs ρ1) (L2.wipe σ vs) (upd H1 Dn (.dK [])) ω1 := by
        refine ((j1.grow gr).toBlk (R := (· = Dn)) fun p hp => ?_).wipe vs
        subst hp
        exact ⟨n1, (by rw [upd_same]; intro z; cases z), n4⟩
      have kk : Kp Z1 H1 Z1 (upd H1 Dn (.dK [])) := .of j1.good gr.sub gr.ext
      have ww : L2.wipe (L2.wipe σ vs) vs = L2.wipe σ vs := wipe_in fun _ h => h
      refine loop_gen (B := B.blk (· = Dn)) (Dn := Dn) (AR := AK B.g.tk Dn) (vs := vs) (step := step2K vs1 t it1 t1 fk fv) (w.weak fun Z H r => kk.trans r.1) (fun _ _ _ _ _ g a => a.grow (g := B.g) g) _ ?_ ja ⟨[], upd_same, .nil⟩ ?_
      · intro d x Z2 H2 ρ2 ω2 a Nx j2 ra rd hq
        unfold step2K at hq
        refine ⟨(· = Dn), Z2, ρ2, ω2, d, j2, rd, ?_⟩
        cases et : t d ρ2 with
        | none => simp only [et] at hq; exact hq
        | some ρ4 =>
          simp only [et] at hq
          intro σ4 h4 l4 j4
          have hw4 : L2.wipe σ4 vs = L2.wipe σ vs := wipe_eq (fun k hk => h4 k fun z => hk (hsl k z)) l4
          refine ⟨hw4, (· = Dn), Z2, ρ4, ω2, j4, ?_⟩
          cases ei : it1 ρ4 ω2 with
          | bad => simp only [ei, Out.thenB] at hq; exact hq
          | exc c ω' => simp only [ei, Out.thenB] at hq; exact hq.elim
          | ok ds1 ρ5 ω5 =>
            simp only [ei, Out.thenB] at hq
            intro Z5 H5 It1 x5 z5 j5 w5
            have k5 : Kp Z2 H2 Z5 H5 := .of j4.good z5 x5
            have x5 : Ext B.g H2 H5 := x5
            have ra5 : AK B.g.tk Dn Z5 H5 a := by
              obtain ⟨kvs, hk, rk⟩ := ra
              exact ⟨kvs, x5.keep _ _ hk n2 fix_dK, rk.mono k5.sub k5.keep⟩
            have ww1 : L2.wipe (L2.wipe σ4 vs1) vs1 = L2.wipe σ4 vs1 := wipe_in fun _ h => h
            refine loop_gen (B := B.blk (· = Dn)) (Dn := Dn) (AR := AK B.g.tk Dn) (vs := vs1) (step := stepK t1 fk fv) (w5.weak fun Z H r => r.1) (fun _ _ _ _ _ g a => a.grow (g := B.g) g) _ ?_ (j5.wipe vs1) ra5 ?_
            · intro d x Z H ρ ω a Nx j ra rd hq
              have := stepK_ok (R := (· = Dn)) rfl n3 n2 hsl1 ww1 d x Z H ρ ω a Nx j ra rd hq
              rw [ww1] at this
              exact this
            · cases el : loopA vs1 (stepK t1 fk fv) ds1 a (wipeF vs1 ρ5) ω5 with
              | bad => simp only [el] at hq; exact hq
              | exc c ω' => simp only [el] at hq; exact hq
              | ok ks ρ6 ω6 =>
                simp only [el] at hq
                intro Z6 H6 j6 ra6 k6 x6
                refine hq Z6 H6 ?_ ra6 (k5.trans k6) (x5.toD.trans x6)
                have := j6.wipe vs
                rw [wipe_in hv, hw4] at this
                exact this
      · cases ec : loopA vs (step2K vs1 t it1 t1 fk fv) ds [] (wipeF vs ρ1) ω1 with
        | bad => simp only [ec, Out.thenB] at h
        | exc c ω' => simp only [ec, Out.thenB] at h
        | ok ks ρ2 ω2 =>
          simp only [ec, Out.thenB] at h
          intro Z2 H2 j2 ra2 k2 x2
          obtain ⟨kvs, hk, rk⟩ := ra2
          have ex : Ext B.g H1 H2 := ExtD.after gr.ext x2 hD
          have kp : Kp Z1 H1 Z2 H2 := kk.trans k2
          have jf := J.rest j1 (j2.ofBlk0 (R := (· = Dn))) kp hno
          have hn : ∀ (i : Nat) (d : D), (restF vs ρ1 ρ2)[i]? = some (.own d) → σ[i]? ≠ some (some (.ref Dn)) := fun i d hi hs => by
            by_cases hiv : i ∈ vs
            · have hlt : i < ρ2.length := by
                have := (List.getElem?_eq_some_iff.mp hi).1
                rw [restF_len] at this; exact this
              rw [restF_in hiv hlt] at hi
              have hl2 : ρ2.length = ρ1.length := by rw [j2.len, wipe_length, j1.len]
              have hlt1 : i < ρ1.length := by rw [← hl2]; exact hlt
              have := List.all_eq_true.mp hno i hiv
              rw [List.getD_eq_getElem?_getD, List.getElem?_eq_getElem hlt1] at hi
              rw [List.getElem?_eq_getElem hlt1] at this
              have hi' : ρ1[i] = .own d := by simpa using hi
              rw [hi'] at this
              simp [isOwn] at this
            · rw [restF_out hiv] at hi
              obtain ⟨p, q1, q2, q3, q4, q5, q6⟩ := j2.own i d hi
              rw [wipe_out hiv, hs] at q1
              cases q1
              exact q6 (.inr rfl)
          have nz := (j2.res Dn (.inr rfl)).1
          refine h _ (.ref Dn) H2 (e1.trans ex) (fun p z => .inl (kp.sub p (z1 p z))) (jf.adopt hk fix_dK n2 n3 n5 hn) (.obj (.inr rfl) (.dK hk (rk.mono (fun _ z => .inl z) fun _ _ _ h => h)))
    · simp only [hno, if_false] at h
      exact h.elim
/-- len of a dict -/
def lenKD (a : D) : Option D := match a with
  | .dct ks => some (.int ks.length)
  | _ => none
end
end L2.Fl

namespace L2.Fl
open PySem PySem.Spec PyProof.Rows

/-! ### min, max of alike data -/
theorem minD_mem (x : PyData) : ∀ xs : List PyData, PySem.W.minD x xs ∈ x :: xs := fun xs => by
  have key : ∀ (xs : List PyData) (a : PyData) (S : List PyData), a ∈ S → (∀ y ∈ xs, y ∈ S) → xs.foldl (fun a y => if PySem.W.dataLt y a then y else a) a ∈ S := by
    intro xs
    induction xs with
    | nil => exact fun a S h _ => h
    | cons y ys ih =>
      intro a S h hs
      rw [List.foldl_cons]
      refine ih _ S ?_ fun z hz => hs z (List.mem_cons_of_mem _ hz)
      split
      · exact hs y List.mem_cons_self
      · exact h
  exact key xs x _ List.mem_cons_self fun y hy => List.mem_cons_of_mem _ hy
theorem maxD_mem (x : PyData) : ∀ xs : List PyData, PySem.W.maxD x xs ∈ x :: xs := fun xs => by
  have key : ∀ (xs : List PyData) (a : PyData) (S : List PyData), a ∈ S → (∀ y ∈ xs, y ∈ S) → xs.foldl (fun a y => if PySem.W.dataLt a y then y else a) a ∈ S := by
    intro xs
    induction xs with
    | nil => exact fun a S h _ => h
    | cons y ys ih =>
      intro a S h hs
      rw [List.foldl_cons]
      refine ih _ S ?_ fun z hz => hs z (List.mem_cons_of_mem _ hz)
      split
      · exact hs y List.mem_cons_self
      · exact h
  exact key xs x _ List.mem_cons_self fun y hy => List.mem_cons_of_mem _ hy
/-- of alike data one that stands in the list, by a choice c of the kit's -/
def rBestA (K : PySem.W.Frag) (c : PyData → List PyData → PyData) : List V → Hp → VK → Prop := fun vs H Q => ∃ (a : Addr) (ys : List V) (x : PyData) (xs : List PyData), vs = [.ref a] ∧ (SqL K H a ys ∨ SqT K H a ys) ∧ DpAll K H ys (x :: xs) ∧ PySem.W.AlikeAll (x :: xs) ∧ PyData.depthAll (x :: xs) ≤ 64 ∧
  ∀ (i : Nat) (v : V), ys[i]? = some v → (x :: xs)[i]? = some (c x xs) → Q v H
section
variable {X : Cx} {pins : List (Addr × Obj)} {σ : L2.St} {H : Hp} {s : Shared}
theorem readsAllDp (I : Inv X pins σ H s) : ∀ {ds : List PyData} {vs : List V} {us : List Value}, DpAll X.K H vs ds → Vals vs us → ∃ as, ReadsAll s.heap us ds as
  | _, _, _, .nil, .nil => ⟨_, .nil⟩
  | _, _, _, .cons h t, .cons r q => by
    obtain ⟨as, h1⟩ := Dp.reads I _ _ _ h r
    obtain ⟨bs, h2⟩ := readsAllDp I t q
    exact ⟨_, .cons h1 h2⟩
theorem best_end {ds : PyData} {xs : List PyData} {m : PyData} {its : List Value} {as bs : List Addr} {h' : Heap} {i : Nat} {v : Value} (hr : ReadsAll s.heap its (ds :: xs) as) (ha : PySem.W.AlikeAll (ds :: xs)) (hm : m ∈ ds :: xs) (hv : its[i]? = some v) (hR : Reads h' v m bs) (hk : ∀ b o, s.heap.get? b = some o → h'.get? b = some o) :
    (ds :: xs)[i]? = some m := by
  obtain ⟨cs, r1, hi, hmem, _⟩ := PySem.W.readsAll_at hr i v hv
  have r2 := PySem.W.reads_keeps hk r1
  have e := PySem.W.alike_unique _ _ v _ _ (ha.1 m hm _ hmem) hR r2
  rw [List.getD_eq_getElem?_getD] at e
  rw [List.getElem?_eq_getElem hi] at e ⊢
  simp only [Option.getD_some] at e
  rw [e]
theorem valsGetR : ∀ {xs : List V} {us : List Value} {i : Nat} {u : Value}, Vals xs us → us[i]? = some u → ∃ x, xs[i]? = some x ∧ RelV x u
  | _, _, _, _, .nil, h => by simp at h
  | _, _, 0, _, .cons r _, h => by simp at h; subst h; exact ⟨_, rfl, r⟩
  | _, _, i + 1, _, .cons _ t, h => by
    obtain ⟨x, h1, h2⟩ := valsGetR (i := i) t (by simpa using h)
    exact ⟨x, by simpa using h1, h2⟩
end
section
variable {X : Cx}
theorem call_minA (hc : X.calm = true) (hu : X.A.units + 65 < cLine) : CallR X (.builtin "min") (rBestA X.K PySem.W.minD) := by
  intro pins s σ H vs us Q I r h
  obtain ⟨a, ys, x, xs, rfl, hs, hd, ha, hdep, q⟩ := h
  rw [Vals.ref1 r]
  rcases hs with hs | hs
  · obtain ⟨its, rv, hl, _⟩ := I.list hs
    obtain ⟨as, hr⟩ := readsAllDp I hd rv
    refine PySem.W.min_list_data (vs := its.toArray) (I.ok.hd hc) hl.isList (by simpa using hr) ha (by omega) fun i v h' tk bs hv hR hk => ?_
    have hv : its[i]? = some v := by simpa using hv
    obtain ⟨y, hy, ry⟩ := valsGetR rv hv
    exact ⟨y, H, I.kept hk, ry, q i y hy (best_end hr ha (minD_mem x xs) hv hR hk)⟩
  · obtain ⟨its, rv, hl, _⟩ := I.tuple hs
    obtain ⟨as, hr⟩ := readsAllDp I hd rv
    refine PySem.W.min_tuple_data (vs := its.toArray) (I.ok.hd hc) hl (by simpa using hr) ha (by omega) fun i v h' tk bs hv hR hk => ?_
    have hv : its[i]? = some v := by simpa using hv
    obtain ⟨y, hy, ry⟩ := valsGetR rv hv
    exact ⟨y, H, I.kept hk, ry, q i y hy (best_end hr ha (minD_mem x xs) hv hR hk)⟩
theorem call_maxA (hc : X.calm = true) (hu : X.A.units + 65 < cLine) : CallR X (.builtin "max") (rBestA X.K PySem.W.maxD) := by
  intro pins s σ H vs us Q I r h
  obtain ⟨a, ys, x, xs, rfl, hs, hd, ha, hdep, q⟩ := h
  rw [Vals.ref1 r]
  rcases hs with hs | hs
  · obtain ⟨its, rv, hl, _⟩ := I.list hs
    obtain ⟨as, hr⟩ := readsAllDp I hd rv
    refine PySem.W.max_list_data (vs := its.toArray) (I.ok.hd hc) hl.isList (by simpa using hr) ha (by omega) fun i v h' tk bs hv hR hk => ?_
    have hv : its[i]? = some v := by simpa using hv
    obtain ⟨y, hy, ry⟩ := valsGetR rv hv
    exact ⟨y, H, I.kept hk, ry, q i y hy (best_end hr ha (maxD_mem x xs) hv hR hk)⟩
  · obtain ⟨its, rv, hl, _⟩ := I.tuple hs
    obtain ⟨as, hr⟩ := readsAllDp I hd rv
    refine PySem.W.max_tuple_data (vs := its.toArray) (I.ok.hd hc) hl (by simpa using hr) ha (by omega) fun i v h' tk bs hv hR hk => ?_
    have hv : its[i]? = some v := by simpa using hv
    obtain ⟨y, hy, ry⟩ := valsGetR rv hv
    exact ⟨y, H, I.kept hk, ry, q i y hy (best_end hr ha (maxD_mem x xs) hv hR hk)⟩
end
/-! the choice, on plain data -/
def alikeD (xs : List D) : Bool := (xs.all fun x => xs.all fun y => PySem.W.alike (pD x) (pD y)) && xs.all fun x => match x with
  | .non => false
  | _ => true
def ltd (a b : D) : Bool := PySem.W.dataLt (pD a) (pD b)
def bestD (c : D → D → Bool) (x : D) (xs : List D) : D := xs.foldl (fun a y => if c a y then y else a) x
def bestOf (c : D → D → Bool) (a : D) : Option D := match items? a with
  | some (x :: xs) => if okDs (x :: xs) 8 && alikeD (x :: xs) then some (bestD c x xs) else none
  | _ => none
theorem okDs_mem : ∀ {xs : List D} {n : Nat}, okDs xs n = true → ∀ x ∈ xs, okD x n = true
  | x :: xs, n, h, y, hy => by
    simp only [okDs, Bool.and_eq_true] at h
    rcases List.mem_cons.mp hy with e | e
    · rw [e]; exact h.1
    · exact okDs_mem h.2 y e
theorem pDs_map : ∀ xs : List D, pDs xs = xs.map pD
  | [] => rfl
  | x :: xs => by simp only [pDs, List.map_cons, pDs_map xs]
theorem alikeD_all {xs : List D} {n : Nat} (hn : okDs xs n = true) (h : alikeD xs = true) : PySem.W.AlikeAll (pDs xs) := by
  unfold alikeD at h
  simp only [Bool.and_eq_true, List.all_eq_true] at h
  rw [pDs_map]
  refine ⟨fun x hx y hy => ?_, fun x hx => ?_⟩
  · obtain ⟨a, ha, rfl⟩ := List.mem_map.mp hx
    obtain ⟨b, hb, rfl⟩ := List.mem_map.mp hy
    exact h.1 a ha b hb
  · obtain ⟨a, ha, rfl⟩ := List.mem_map.mp hx
    have := h.2 a ha
    have ok := okDs_mem hn a ha
    cases a <;> simp_all [pD, okD]
mutual
theorem pD_inj : ∀ (a b : D) (n m : Nat), okD a n = true → okD b m = true → pD a = pD b → a = b
  | a, b, n, m, ha, hb, h => by
    cases a <;> cases b <;> first
      | (simp [okD] at ha; done)
      | (simp [okD] at hb; done)
      | (simp [pD] at h; done)
      | rfl
      | (simp only [pD, PyData.bool.injEq] at h; rw [h]; done)
      | (simp only [pD, PyData.int.injEq] at h; rw [h]; done)
      | (simp only [pD, PyData.str.injEq] at h; rw [h]; done)
      | (rename_i xs ys
         cases n with
         | zero => simp [okD] at ha
         | succ n =>
           cases m with
           | zero => simp [okD] at hb
           | succ m =>
             simp only [okD] at ha hb
             first
               | (simp only [pD, PyData.tuple.injEq] at h; rw [pDs_inj xs ys n m ha hb h])
               | (simp only [pD, PyData.list.injEq] at h; rw [pDs_inj xs ys n m ha hb h]))
theorem pDs_inj : ∀ (a b : List D) (n m : Nat), okDs a n = true → okDs b m = true → pDs a = pDs b → a = b
  | [], [], _, _, _, _, _ => rfl
  | [], _ :: _, _, _, _, _, h => by simp [pDs] at h
  | _ :: _, [], _, _, _, _, h => by simp [pDs] at h
  | x :: xs, y :: ys, n, m, ha, hb, h => by
    simp only [okDs, Bool.and_eq_true] at ha hb
    simp only [pDs, List.cons.injEq] at h
    rw [pD_inj x y n m ha.1 hb.1 h.1, pDs_inj xs ys n m ha.2 hb.2 h.2]
end
theorem best_map {c : D → D → Bool} {cp : PyData → PyData → Bool} (hc : ∀ a b, c a b = cp (pD a) (pD b)) : ∀ (xs : List D) (x : D), pD (bestD c x xs) = (xs.map pD).foldl (fun a y => if cp a y then y else a) (pD x)
  | [], x => rfl
  | y :: ys, x => by
    unfold bestD
    rw [List.foldl_cons, List.map_cons, List.foldl_cons, ← hc]
    have := best_map hc ys (if c x y then y else x)
    unfold bestD at this
    rw [this]
    congr 1
    split <;> rfl
theorem best_mem {c : D → D → Bool} : ∀ (xs : List D) (x : D), bestD c x xs ∈ x :: xs
  | [], x => List.mem_cons_self
  | y :: ys, x => by
    have := best_mem (c := c) ys (if c x y then y else x)
    unfold bestD at this ⊢
    rw [List.foldl_cons]
    rcases List.mem_cons.mp this with e | e
    · rw [e]
      split
      · exact List.mem_cons_of_mem _ List.mem_cons_self
      · exact List.mem_cons_self
    · exact List.mem_cons_of_mem _ (List.mem_cons_of_mem _ e)
def minDD (a : D) : Option D := bestOf (fun a y => ltd y a) a
def maxDD (a : D) : Option D := bestOf (fun a y => ltd a y) a
section
variable {g : Gd} {K : PySem.W.Frag}
theorem sim_best {c : D → D → Bool} {cp : PyData → PyData → Bool} {cc : PyData → List PyData → PyData} (hc : ∀ a b, c a b = cp (pD a) (pD b)) (hcc : ∀ x xs, cc x xs = xs.foldl (fun a y => if cp a y then y else a) x) : Sim1 g (r1c (rBestA K cc)) (bestOf c) := fun Z H ω v a d Q G ra h hq => by
  unfold bestOf at h
  split at h
  · rename_i x xs e
    by_cases hk : (okDs (x :: xs) 8 && alikeD (x :: xs)) = true
    · rw [if_pos hk] at h
      cases h
      have hk := Bool.and_eq_true_iff.mp hk
      obtain ⟨p, vs, rfl, hs, rs⟩ := items_br (K := K) ra e
      have hdep : PyData.depthAll (pDs (x :: xs)) ≤ 64 := by have := (okDs_canLay _ _ hk.1).2; omega
      refine ⟨p, vs, pD x, pDs xs, rfl, hs, rs.dp hk.1, alikeD_all hk.1 hk.2, hdep, fun i y hy hi => ?_⟩
      obtain ⟨d', h1, h2⟩ := rs.get' hy
      have e1 : (pDs (x :: xs))[i]? = some (pD d') := by rw [pDs_map, List.getElem?_map, h1]; rfl
      have e2 : (pDs (x :: xs))[i]? = some (cc (pD x) (pDs xs)) := hi
      rw [e1] at e2
      have e3 : pD d' = pD (bestD c x xs) := by rw [best_map hc, ← pDs_map, ← hcc]; exact Option.some.inj e2
      have hm : d' ∈ x :: xs := List.mem_of_getElem? h1
      have := pD_inj _ _ 8 8 (okDs_mem hk.1 _ hm) (okDs_mem hk.1 _ (best_mem xs x)) e3
      rw [this] at h2
      exact hq Z _ H .refl h2
    · rw [if_neg hk] at h; cases h
  · cases h
theorem sim_minA : Sim1 g (r1c (rBestA K PySem.W.minD)) minDD := sim_best (cp := fun a y => PySem.W.dataLt y a) (fun _ _ => rfl) fun _ _ => rfl
theorem sim_maxA : Sim1 g (r1c (rBestA K PySem.W.maxD)) maxDD := sim_best (cp := fun a y => PySem.W.dataLt a y) (fun _ _ => rfl) fun _ _ => rfl
/-- len of a dict -/
def rLenK : List V → Hp → VK → Prop := fun xs H Q => (∃ a kvs, xs = [V.ref a] ∧ H a = some (.dK kvs) ∧ Q (.int kvs.length) H) ∨ rLenT xs H Q
theorem RT.length {tk : Nat → Option V} {Z : Addr → Prop} {H : Hp} : ∀ {ks : List (D × D)} {kvs : List (List Key × V)}, RT tk Z H ks kvs → ks.length = kvs.length
  | _, _, .nil => rfl
  | _, _, .cons _ t => congrArg (· + 1) t.length
theorem BR.dct {Z : Addr → Prop} {H : Hp} {ks : List (D × D)} {v : V} (r : BR g Z H (.dct ks) v) : ∃ p, v = .ref p ∧ ((∃ kvs, H p = some (.dK kvs) ∧ RK g.tk Z H ks kvs) ∨ ∃ kvs, H p = some (.dT kvs) ∧ RT g.tk Z H ks kvs) := by
  have key : ∀ p, RO g.tk Z H (.dct ks) p → ((∃ kvs, H p = some (.dK kvs) ∧ RK g.tk Z H ks kvs) ∨ ∃ kvs, H p = some (.dT kvs) ∧ RT g.tk Z H ks kvs) := fun p r => by
    cases r with
    | dK h r => exact .inl ⟨_, h, r⟩
    | dT h r => exact .inr ⟨_, h, r⟩
  rcases r with r | ⟨p, rfl, n, r⟩
  · cases r with
    | obj z r => exact ⟨_, rfl, key _ r⟩
  · exact ⟨p, rfl, key _ r⟩
theorem sim_lenK : Sim1 g (r1c rLenK) lenKD := fun Z H ω v a d Q G ra h hq => by
  cases a with
  | dct ks =>
    cases h
    obtain ⟨p, rfl, ⟨kvs, h1, h2⟩ | ⟨kvs, h1, h2⟩⟩ := ra.dct
    · exact .inl ⟨p, kvs, rfl, h1, by rw [← h2.length]; exact hq Z _ H .refl (.int _)⟩
    · exact .inr ⟨p, kvs, rfl, h1, by rw [← h2.length]; exact hq Z _ H .refl (.int _)⟩
  | _ => cases h
end
section
variable {X : Cx} {B : Bc} {e a b : Expr} {p pos : Pos} {fa fb : EM D} {k : Nat}
theorem eMinA (hc : X.calm = true) (hr : Room k X.A) (hb : Bn X.mg) (ha : PE X a (RdB B fa)) (hg : Gl X "min" := by rfl) (he : starEach [a] X.env = (false, eval a X.env) :: starEach [] X.env := by rfl) (hpl : (backTo pos (starEach [] X.env)).any (·.1) = false := by rfl) :
    PE X (.Call (.Name "min" p) [a] [] pos) (RdE B (op1 minDD fa)) := m_op1 sim_minA (fun ta ha => pe_callB (call_minA hc (room65 hr)) hg hb.min (by decide +kernel) (pa_cons ha pa_nil he) (he := he) (hpl := hpl)) ha
theorem eMaxA (hc : X.calm = true) (hr : Room k X.A) (hb : Bn X.mg) (ha : PE X a (RdB B fa)) (hg : Gl X "max" := by rfl) (he : starEach [a] X.env = (false, eval a X.env) :: starEach [] X.env := by rfl) (hpl : (backTo pos (starEach [] X.env)).any (·.1) = false := by rfl) :
    PE X (.Call (.Name "max" p) [a] [] pos) (RdE B (op1 maxDD fa)) := m_op1 sim_maxA (fun ta ha => pe_callB (call_maxA hc (room65 hr)) hg hb.max (by decide +kernel) (pa_cons ha pa_nil he) (he := he) (hpl := hpl)) ha
theorem eLenK (hb : Bn X.mg) (ha : PE X a (RdB B fa)) (hg : Gl X "len" := by rfl) (he : starEach [a] X.env = (false, eval a X.env) :: starEach [] X.env := by rfl) (hpl : (backTo pos (starEach [] X.env)).any (·.1) = false := by rfl) :
    PE X (.Call (.Name "len" p) [a] [] pos) (RdE B (op1 lenKD fa)) := m_op1 sim_lenK (fun ta ha => pe_callB (call_lenD.or call_len_dT) hg hb.len (by decide +kernel) (pa_cons ha pa_nil he) (he := he) (hpl := hpl)) ha
end
end L2.Fl

namespace L2.Fl
open PySem PySem.Spec PyProof.Rows

/-- a class of errors of one's own, under ValueError, without an __init__ of its own -/
structure OwnX (K : PySem.W.Frag) (mg : Str → Option Value) (x : Str) (C : Addr) : Prop where
  g : mg x = some (.ref C)
  q : PySem.W.excIn K C [.type "ValueError", .type "Exception", .type "BaseException", .type "object"] "ValueError.__new__" = true
  k : PySem.W.keepIn K (.ref C) = true
  b : PySem.W.subIn K (.ref C) (.type "BaseException") = some true
  t : PySem.W.typeIn K (.ref C) = some (.type "type")
section
variable {X : Cx} {B : Bc} {e a b c tg iter : Expr} {p p2 pos pos2 apos : Pos} {st : Stmt} {rest body orelse : List Stmt}
theorem sRaise {n : Nat} {x m : Str} {j : Nat} (hc : X.calm = true) (o : OwnX X.K X.mg x (B.cls n)) (tk : Takes X (fun cls d _ H => B.E cls d H)) (hg : Gl X x := by rfl) (hdb : (x == ("__debug__" : Str)) = false := by decide) :
    PS X (.Raise (some (.Call (.Name x p) [.Constant (.str m) j p2] [] pos)) none pos2) (RdS B (raS n)) :=
  s_raise (ps_raise hc tk (pmk_own PySem.F.excBase_ValueError o.q o.g o.k (raises_own o.b o.t) hg hdb))
theorem takesF {P : Program} {w : World} {K : PySem.W.Frag} {mg : Str → Option Value} {base : Heap} {N : List Str} {qual : Str} {scope : Scope} {f : Addr} {cd : Value} {A : Around} {outer : List Env} {s : Shared} {H : Hp} {E : XK} :
    Takes (cxOf (CX P w) P w K mg base N qual scope f cd A outer s H E) (fun cls d _ H => E cls d H) := takes_of rfl rfl rfl rfl
/-- a target of any form -/
def asgS (t : TM) (f : EM D) : SM := fun ρ ω => (f ρ ω).stm fun d ρ ω => match t d ρ with
  | some ρ' => .nx ρ' ω
  | none => .bad
theorem s_asgT {t : TM} {f : EM D} {sl : List Nat} (h : PS X st (tAsg (RdE B f) (RdG B t sl))) : PS X st (RdS B (asgS t f)) := PS.imp h fun D σ H ⟨Z, ρ, ω, j, q⟩ => by
  refine ⟨Z, ρ, ω, j, ?_⟩
  unfold asgS at q
  cases ea : f ρ ω with
  | bad => simp only [ea, Out.stm] at q; exact q
  | exc c ω' => simp only [ea, Out.stm] at q; exact q
  | ok d ρ1 ω1 =>
    simp only [ea, Out.stm] at q
    intro Z1 v H1 e1 z1 j1 r1
    refine ⟨Z1, ρ1, ω1, d, j1, r1, ?_⟩
    cases et : t d ρ1 with
    | none => simp only [et] at q; exact q
    | some ρ2 =>
      simp only [et] at q
      exact fun σ' _ _ j2 => q Z1 σ' H1 (.of j.good z1 e1) j2
theorem sAsgT {t : TM} {f : EM D} {sl : List Nat} (he : PE X e (RdE B f)) (hg : PG X tg (RdG B t sl)) (hs : swapsWithSole [tg] e pos.line X.env = pure false := by rfl) (hw : swappedStores [tg] e X.env = pure none := by rfl)
    (h1 : (assignEach [tg] X.env).map (·.2) = [assign tg X.env] := by rfl) : PS X (.Assign [tg] e pos) (RdS B (asgS t f)) := s_asgT (ps_asg he hg hs hw h1)
/-! comprehensions, in the generator's words -/
section
variable {elt kx vx tb ib : Expr} {ifs : List Expr} {scope : Scope} {own : List (Str × Nat)} {slots slots1 vs1 : List Nat} {it it1 : EM (List D)} {t t1 : TM} {tt : EM Bool} {te fk fv : EM D} {i : Nat} {y : Str} {py spos : Pos}
theorem sSetLc (hc : X.calm = true) (hN : X.N.Nodup) (hy : X.N[i]? = some y) (hyl : X.env.scope.names.lookup y = some .local) (hsw : swapsWith (.ListComp elt [⟨tg, iter, ifs, 0⟩] scope pos) (some (.Name y py)) spos.line X.env = pure true)
    (hi : PI X tg iter (RdIB B it)) (ok : BlkOk X.N X.env.scope scope own) (hsl : ∀ i ∈ slots, i ∈ own.map (·.2))
    (hg : ∀ (R : Addr → Prop) (s : Shared) (H : Hp) (C : Addr) (cl : List (Str × Addr)) (fp : List Addr), PG (X.blk s H scope (compEnvC scope cl C X.env) fp) tg (RdG (B.blk R) t slots))
    (ht : ∀ (R : Addr → Prop) (s : Shared) (H : Hp) (C : Addr) (cl : List (Str × Addr)) (fp : List Addr), PTs (X.blk s H scope (compEnvC scope cl C X.env) fp) ifs (RdT (B.blk R) tt))
    (he : ∀ (R : Addr → Prop) (s : Shared) (H : Hp) (C : Addr) (cl : List (Str × Addr)) (fp : List Addr), PE (X.blk s H scope (compEnvC scope cl C X.env) fp) elt (RdE (B.blk R) te))
    (hs : ∀ x, foldedSetIterable iter X.env x = pure x := by intro _; rfl) : PS X (.Assign [.Name y py] (.ListComp elt [⟨tg, iter, ifs, 0⟩] scope pos) spos) (RdS B (setS i (frz (lcM (own.map (·.2)) it t tt te)))) :=
  s_setLc hsl (ps_setLc hc hN hy hyl hsw hi ok (fun s H C cl fp => x_g fun R => hg R s H C cl fp) (fun s H C cl fp => x_t fun R => ht R s H C cl fp) (fun s H C cl fp => x_e fun R => he R s H C cl fp) hs)
theorem sOwnLc (hc : X.calm = true) (hN : X.N.Nodup) (hy : X.N[i]? = some y) (hyl : X.env.scope.names.lookup y = some .local) (hsw : swapsWith (.ListComp elt [⟨tg, iter, ifs, 0⟩] scope pos) (some (.Name y py)) spos.line X.env = pure true)
    (hi : PI X tg iter (RdIB B it)) (ok : BlkOk X.N X.env.scope scope own) (hsl : ∀ i ∈ slots, i ∈ own.map (·.2))
    (hg : ∀ (R : Addr → Prop) (s : Shared) (H : Hp) (C : Addr) (cl : List (Str × Addr)) (fp : List Addr), PG (X.blk s H scope (compEnvC scope cl C X.env) fp) tg (RdG (B.blk R) t slots))
    (ht : ∀ (R : Addr → Prop) (s : Shared) (H : Hp) (C : Addr) (cl : List (Str × Addr)) (fp : List Addr), PTs (X.blk s H scope (compEnvC scope cl C X.env) fp) ifs (RdT (B.blk R) tt))
    (he : ∀ (R : Addr → Prop) (s : Shared) (H : Hp) (C : Addr) (cl : List (Str × Addr)) (fp : List Addr), PE (X.blk s H scope (compEnvC scope cl C X.env) fp) elt (RdE (B.blk R) te))
    (hs : ∀ x, foldedSetIterable iter X.env x = pure x := by intro _; rfl) : PS X (.Assign [.Name y py] (.ListComp elt [⟨tg, iter, ifs, 0⟩] scope pos) spos) (RdS B (ownS i (lcM (own.map (·.2)) it t tt te))) :=
  s_ownLc hsl (ps_setLc hc hN hy hyl hsw hi ok (fun s H C cl fp => x_g fun R => hg R s H C cl fp) (fun s H C cl fp => x_t fun R => ht R s H C cl fp) (fun s H C cl fp => x_e fun R => he R s H C cl fp) hs)
theorem eDc2 (hc : X.calm = true) (hN : X.N.Nodup) (hi : PI X tg iter (RdI B it)) (ok : BlkOk X.N X.env.scope scope own) (hsl : ∀ i ∈ slots, i ∈ own.map (·.2)) (hsl1 : ∀ i ∈ slots1, i ∈ vs1) (hv : ∀ i ∈ vs1, i ∈ own.map (·.2))
    (hg : ∀ (R : Addr → Prop) (s : Shared) (H : Hp) (C : Addr) (cl : List (Str × Addr)) (fp : List Addr), PG (X.blk s H scope (compEnvC scope cl C X.env) fp) tg (RdG (B.blk R) t slots))
    (hi1 : ∀ (R : Addr → Prop) (s : Shared) (H : Hp) (C : Addr) (cl : List (Str × Addr)) (fp : List Addr), PI (X.blk s H scope (compEnvC scope cl C X.env) fp) tb ib (RdI (B.blk R) it1))
    (hg1 : ∀ (R : Addr → Prop) (s : Shared) (H : Hp) (C : Addr) (cl : List (Str × Addr)) (fp : List Addr), PG (X.blk s H scope (compEnvC scope cl C X.env) fp) tb (RdG (B.blk R) t1 slots1))
    (hk : ∀ (R : Addr → Prop) (s : Shared) (H : Hp) (C : Addr) (cl : List (Str × Addr)) (fp : List Addr), PE (X.blk s H scope (compEnvC scope cl C X.env) fp) kx (RdE (B.blk R) fk))
    (he : ∀ (R : Addr → Prop) (s : Shared) (H : Hp) (C : Addr) (cl : List (Str × Addr)) (fp : List Addr), PE (X.blk s H scope (compEnvC scope cl C X.env) fp) vx (RdE (B.blk R) fv))
    (hs : ∀ x, foldedSetIterable iter X.env x = pure x := by intro _; rfl) (hs1 : ∀ env x, foldedSetIterable ib env x = pure x := by intro _ _; rfl) : PE X (DC2 kx vx tg iter tb ib scope pos) (RdE B (dc2M (own.map (·.2)) vs1 it t it1 t1 fk fv)) :=
  PE.imp (pe_dc2 hc hN hi ok hv (fun s H C cl fp => x_g fun R => hg R s H C cl fp) (fun s H C cl fp => x_if fun R => hi1 R s H C cl fp) (fun s H C cl fp => x_g fun R => hg1 R s H C cl fp) (fun s H C cl fp => x_e fun R => hk R s H C cl fp) (fun s H C cl fp => x_e fun R => he R s H C cl fp) hs hs1) (i_dc2 hsl hsl1 hv)
theorem sSetDc2 (hc : X.calm = true) (hN : X.N.Nodup) (hy : X.N[i]? = some y) (hyl : X.env.scope.names.lookup y = some .local) (hsw : swapsWith (DC2 kx vx tg iter tb ib scope pos) (some (.Name y py)) spos.line X.env = pure true)
    (hi : PI X tg iter (RdI B it)) (ok : BlkOk X.N X.env.scope scope own) (hsl : ∀ i ∈ slots, i ∈ own.map (·.2)) (hsl1 : ∀ i ∈ slots1, i ∈ vs1) (hv : ∀ i ∈ vs1, i ∈ own.map (·.2))
    (hg : ∀ (R : Addr → Prop) (s : Shared) (H : Hp) (C : Addr) (cl : List (Str × Addr)) (fp : List Addr), PG (X.blk s H scope (compEnvC scope cl C X.env) fp) tg (RdG (B.blk R) t slots))
    (hi1 : ∀ (R : Addr → Prop) (s : Shared) (H : Hp) (C : Addr) (cl : List (Str × Addr)) (fp : List Addr), PI (X.blk s H scope (compEnvC scope cl C X.env) fp) tb ib (RdI (B.blk R) it1))
    (hg1 : ∀ (R : Addr → Prop) (s : Shared) (H : Hp) (C : Addr) (cl : List (Str × Addr)) (fp : List Addr), PG (X.blk s H scope (compEnvC scope cl C X.env) fp) tb (RdG (B.blk R) t1 slots1))
    (hk : ∀ (R : Addr → Prop) (s : Shared) (H : Hp) (C : Addr) (cl : List (Str × Addr)) (fp : List Addr), PE (X.blk s H scope (compEnvC scope cl C X.env) fp) kx (RdE (B.blk R) fk))
    (he : ∀ (R : Addr → Prop) (s : Shared) (H : Hp) (C : Addr) (cl : List (Str × Addr)) (fp : List Addr), PE (X.blk s H scope (compEnvC scope cl C X.env) fp) vx (RdE (B.blk R) fv))
    (hs : ∀ x, foldedSetIterable iter X.env x = pure x := by intro _; rfl) (hs1 : ∀ env x, foldedSetIterable ib env x = pure x := by intro _ _; rfl) : PS X (.Assign [.Name y py] (DC2 kx vx tg iter tb ib scope pos) spos) (RdS B (setS i (dc2M (own.map (·.2)) vs1 it t it1 t1 fk fv))) :=
  PS.imp (ps_setDc2 hc hN hy hyl hsw hi ok hv (fun s H C cl fp => x_g fun R => hg R s H C cl fp) (fun s H C cl fp => x_if fun R => hi1 R s H C cl fp) (fun s H C cl fp => x_g fun R => hg1 R s H C cl fp) (fun s H C cl fp => x_e fun R => hk R s H C cl fp) (fun s H C cl fp => x_e fun R => he R s H C cl fp) hs hs1) fun D σ H q => i_dc2 hsl hsl1 hv σ H _ (i_set D σ H q)
end
theorem BOf.tok {G : G0} (h : BOf G B) (hG : ∀ pd, G.tk pd 0 = pd.map V.ref) : B.g.tk 0 = B.g.pd.map V.ref := by
  obtain ⟨pd, e⟩ := h.g
  rw [e]; exact hG pd
end
end L2.Fl

namespace L2.Fl
open PySem PySem.Spec PyProof.Rows

/-! ### the dice of a law, and its rounds: the same text in every law -/
def b_n_law_dice : SM := seqS (ifS (asB (chM ltD ltD (op2 subD (kk (.int 0)) (kk (.int 10))) (bw 0) (kk (.int 10)))) (rtS (frz (lstF (consM (op1 absD (bw 0)) (consM (kk (.int 0)) (consM (kk (.int 2)) (nilM))))))) (skipS))
 (rtS (frz (lstF (consM (vr 0) (consM (op2 addD (kk (.int 1)) (op2 modD (op1 intD (bw 0)) (kk (.int 1009)))) (consM (op1 intD (op2 geD (bw 0) (op2 powD (kk (.int 10)) (kk (.int 18))))) (nilM)))))))
def fM_n_law_dice : FM := runM 1 b_n_law_dice
def b_n_law_roll : SM := seqS (ifS (orT (asB (op2 eqD (diceM 0 2) (kk (.int 2)))) (andT (asB (op2 eqD (diceM 0 2) (kk (.int 1)))) (asB (op2 gtD (diceM 0 0) (kk (.int 0)))))) (seqS (setS 2 (op2 modD (op1 intD (diceM 0 0)) (bw 1)))
 (seqS (diceS 0 0 (op2 fdivD (diceM 0 0) (bw 1)))
 (rtS (vr 2)))) (skipS))
 (seqS (diceS 0 2 (kk (.int 0)))
 (seqS (diceS 0 0 (op2 modD (op1 intD (op2 addD (op2 addD (op2 mulD (diceM 0 0) (kk (.int 48271))) (op2 mulD (diceM 0 1) (kk (.int 69621)))) (kk (.int 11)))) (kk (.int 2147483647))))
 (seqS (diceS 0 1 (op2 addD (diceM 0 1) (kk (.int 1))))
 (rtS (op2 modD (op1 intD (op2 addD (op2 fdivD (diceM 0 0) (kk (.int 7))) (diceM 0 0))) (bw 1))))))
def fM_n_law_roll : FM := runM 3 b_n_law_roll

/-! evaluation -/
@[simp] theorem asB_ok {f : EM D} {ρ ρ' : Fr} {ω ω' : W3} {b : Bool} (h : f ρ ω = .ok (.bl b) ρ' ω') : asB f ρ ω = .ok b ρ' ω' := by unfold asB; rw [h]; rfl
theorem eqd_int (i j : Int) : eqd (.int i) (.int j) = (i == j) := by simp only [eqd]
theorem eqD_int (i j : Int) : eqD (.int i) (.int j) = some (.bl (i == j)) := by simp [eqD, okD, eqd_int]
theorem neD_int (i j : Int) : neD (.int i) (.int j) = some (.bl (!(i == j))) := by simp [neD, okD, eqd_int]
theorem cMul_small {i j : Int} (h : -18446744073709551615 ≤ j) (h2 : j < 18446744073709551615) : cMul i j = true := by
  unfold cMul
  rw [inBd_of (i := j) (by omega) (by omega), Bool.or_true]
theorem cDiv_small {i j : Int} (h : j ≠ 0) (h2 : j.natAbs < 1073741824) : cDiv i j = true := by simp [cDiv, h, h2]
theorem cMod_nz {i j : Int} (h : j ≠ 0) : cMod i j = true := by simp [cMod, h]
theorem fmod_rng (i j : Int) (h : 0 < j) : 0 ≤ i.fmod j ∧ i.fmod j < j := ⟨Int.fmod_nonneg_of_pos i h, Int.fmod_lt_of_pos i h⟩
theorem dice_eval (c : Int) (ω : W3) : ∃ a b d, fM_n_law_dice [.int c] ω = .ok (.lst [.int a, .int b, .int d]) ω := by
  have e1 : (fM_n_law_dice [.int c] ω) = if -10 < c ∧ c < 10 then .ok (.lst [.int (if c < 0 then -c else c), .int 0, .int 2]) ω else .ok (.lst [.int c, .int (1 + c.fmod 1009), .int (if decide (10 ^ 18 ≤ c) then 1 else 0)]) ω := by
    unfold fM_n_law_dice runM b_n_law_dice
    by_cases h1 : -10 < c
    · by_cases h2 : c < 10
      · simp [startF, seqS, ifS, asB, chM, op2, kk, optM, bw, Out.andThen, Out.stm, subD, ltD, iI, iB, rtS, frz, lstF, consM, nilM, op1, absD, SO.andThen, LIM, h1, h2]
      · simp [startF, seqS, ifS, asB, chM, op2, kk, optM, bw, vr, Out.andThen, Out.stm, subD, ltD, addD, modD, geD, powD, iI, iB, iC, cMod, cPow, intD, rtS, frz, lstF, consM, nilM, op1, absD, SO.andThen, LIM, skipS, h1, h2]
    · simp [startF, seqS, ifS, asB, chM, op2, kk, optM, bw, vr, Out.andThen, Out.stm, subD, ltD, addD, modD, geD, powD, iI, iB, iC, cMod, cPow, intD, rtS, frz, lstF, consM, nilM, op1, absD, SO.andThen, LIM, skipS, h1]
  rw [e1]
  split
  · exact ⟨_, _, _, rfl⟩
  · exact ⟨_, _, _, rfl⟩
theorem roll_eval (m : Int) (h0 : 0 < m) (h1 : m < 1073741824) (ω : W3) : ∃ v ω', fM_n_law_roll [.tok 0, .int m] ω = .ok (.int v) ω' ∧ 0 ≤ v ∧ v < m := by
  obtain ⟨a, b, d⟩ := ω
  have hm : m ≠ 0 := by omega
  have hn : m.natAbs < 1073741824 := by omega
  by_cases c : d = 2 ∨ (d = 1 ∧ 0 < a)
  · have e : fM_n_law_roll [.tok 0, .int m] (a, b, d) = .ok (.int (a.fmod m)) (a.fdiv m, b, d) := by
      unfold fM_n_law_roll runM b_n_law_roll
      rcases c with c | ⟨c, c2⟩
      · simp [startF, seqS, ifS, asB, orT, andT, op2, op1, kk, optM, bw, vr, diceM, diceS, w3, w3set, isTok, Out.andThen, Out.stm, eqD_int, gtD, modD, fdivD, mulD, addD, intD, iI, iB, iC, cMod_nz, cDiv_small, hm, hn, setS, rtS, SO.andThen, skipS, c]
      · simp [startF, seqS, ifS, asB, orT, andT, op2, op1, kk, optM, bw, vr, diceM, diceS, w3, w3set, isTok, Out.andThen, Out.stm, eqD_int, gtD, modD, fdivD, mulD, addD, intD, iI, iB, iC, cMod_nz, cDiv_small, hm, hn, setS, rtS, SO.andThen, skipS, c, c2]
    exact ⟨_, _, e, fmod_rng a m h0⟩
  · have c1 : d ≠ 2 := fun z => c (.inl z)
    have c2 : d = 1 → ¬ 0 < a := fun z y => c (.inr ⟨z, y⟩)
    have b1 : (d == 2) = false := by simpa using c1
    have e : fM_n_law_roll [.tok 0, .int m] (a, b, d) = .ok (.int ((((a * 48271 + b * 69621 + 11).fmod 2147483647).fdiv 7 + (a * 48271 + b * 69621 + 11).fmod 2147483647).fmod m)) ((a * 48271 + b * 69621 + 11).fmod 2147483647, b + 1, 0) := by
      unfold fM_n_law_roll runM b_n_law_roll
      by_cases c3 : d = 1
      · simp [startF, seqS, ifS, asB, orT, andT, op2, op1, kk, optM, bw, vr, diceM, diceS, w3, w3set, isTok, Out.andThen, Out.stm, eqD_int, gtD, modD, fdivD, mulD, addD, intD, iI, iB, iC, cMod_nz, cDiv_small, cMul_small, hm, hn, setS, rtS, SO.andThen, skipS, c3, c2 c3]
      · simp [startF, seqS, ifS, asB, orT, andT, op2, op1, kk, optM, bw, vr, diceM, diceS, w3, w3set, isTok, Out.andThen, Out.stm, eqD_int, gtD, modD, fdivD, mulD, addD, intD, iI, iB, iC, cMod_nz, cDiv_small, cMul_small, hm, hn, setS, rtS, SO.andThen, skipS, b1, (show (d == 1) = false by simpa using c3)]
    exact ⟨_, _, e, fmod_rng _ m h0⟩

/-! the rounds -/
def b_rest : SM := seqS (ifS (asB (op2 eqD (bw 2) (frz (lstF (nilM))))) (setS 2 (frz (lstF (consM (kk (.int 0)) (nilM))))) (skipS))
 (rtS (frz (lcM [3] (itM (bw 2)) (nmT 3) (yesT) (callM fM_n_law_dice 1 (consM (vr 3) (nilM))))))
def IsDice (d : D) : Prop := ∃ a b c, d = .lst [.int a, .int b, .int c]
theorem okDs_ints : ∀ (xs : List Int) (n : Nat), okDs (xs.map D.int) n = true
  | [], _ => rfl
  | x :: xs, n => by simp only [List.map_cons, okDs, okD, okDs_ints xs n, Bool.and_self]
theorem comp_dice (m : D) (s : Slot) (c : D) (ω : W3) : ∀ (xs : List Int) (acc : List D), acc.length + xs.length ≤ 64 → ∃ ds, compL [3] (nmT 3) yesT (callM fM_n_law_dice 1 (consM (vr 3) nilM)) (xs.map D.int) acc [s, .val m, .val c, .no] ω = .ok (acc ++ ds) [s, .val m, .val c, .no] ω ∧ (∀ d ∈ ds, IsDice d) ∧ ds.length = xs.length
  | [], acc, _ => ⟨[], by simp [compL], by simp, rfl⟩
  | x :: xs, acc, h => by
    obtain ⟨a, b, d, e⟩ := dice_eval x ω
    have h' : (acc ++ [D.lst [.int a, .int b, .int d]]).length + xs.length ≤ 64 := by simp at h ⊢; omega
    obtain ⟨ds, e2, h2, h3⟩ := comp_dice m s c ω xs (acc ++ [.lst [.int a, .int b, .int d]]) h'
    refine ⟨.lst [.int a, .int b, .int d] :: ds, ?_, ?_, by simp [h3]⟩
    · have hl : acc.length < LIM := by simp at h; unfold LIM; omega
      simp only [List.map_cons, compL, nmT, List.set, yesT, Out.thenB, callM, consM, vr, nilM, Out.andThen, List.getElem?_cons_succ, List.getElem?_cons_zero, List.length_cons, List.length_nil, e, wipeF, hl, if_true]
      simpa using e2
    · intro d' hd
      rcases List.mem_cons.mp hd with rfl | hd
      · exact ⟨_, _, _, rfl⟩
      · exact h2 d' hd
theorem rest_eval (m : Int) (s : Slot) (hs : isOwn (some s) = false) (xs : List Int) (hx : xs.length ≤ 63) (ω : W3) : ∃ ds, b_rest [s, .val (.int m), .val (.lst (xs.map D.int)), .no] ω = .rt (.lst ds) ω ∧ (∀ d ∈ ds, IsDice d) ∧ ds.length ≤ 64 := by
  have hk : okD (.lst (xs.map D.int)) 8 = true := by simp only [okD]; exact okDs_ints _ _
  have key : ∀ ys : List Int, ys.length ≤ 63 → ∃ ds, rtS (frz (lcM [3] (itM (bw 2)) (nmT 3) (yesT) (callM fM_n_law_dice 1 (consM (vr 3) (nilM))))) [s, .val (.int m), .val (.lst (ys.map D.int)), .no] ω = .rt (.lst ds) ω ∧ (∀ d ∈ ds, IsDice d) ∧ ds.length ≤ 64 := fun ys hy => by
    obtain ⟨ds, e, h2, h3⟩ := comp_dice (.int m) s (.lst (ys.map D.int)) ω ys [] (by simp; omega)
    refine ⟨ds, ?_, h2, by omega⟩
    simp only [rtS, frz, lcM, itM, bw, List.getElem?_cons_succ, List.getElem?_cons_zero, Out.andThen, optM, items?, noOwn, List.all_cons, List.all_nil, isOwn, wipeF, List.set, Bool.not_false, Bool.and_self, if_true, e, Out.thenB, Out.stm, List.nil_append]
  cases xs with
  | nil =>
    obtain ⟨ds, e, h⟩ := key [0] (by simp)
    refine ⟨ds, ?_, h⟩
    have e' := e
    simp only [List.map_cons, List.map_nil] at e'
    simp [b_rest, seqS, ifS, asB, op2, bw, kk, frz, lstF, nilM, consM, setS, Out.andThen, Out.stm, optM, eqD, okD, okDs, eqd, eqds, LIM, SO.andThen]
    exact e'
  | cons x xs =>
    obtain ⟨ds, e, h⟩ := key (x :: xs) hx
    refine ⟨ds, ?_, h⟩
    have e1 : eqD (.lst ((x :: xs).map D.int)) (.lst []) = some (.bl false) := by
      unfold eqD
      rw [hk]
      simp [okD, okDs, eqd, eqds]
    have e2 : b_rest [s, .val (.int m), .val (.lst ((x :: xs).map D.int)), .no] ω = rtS (frz (lcM [3] (itM (bw 2)) (nmT 3) (yesT) (callM fM_n_law_dice 1 (consM (vr 3) (nilM))))) [s, .val (.int m), .val (.lst ((x :: xs).map D.int)), .no] ω := by
      simp only [b_rest, seqS, ifS, asB, op2, bw, frz, lstF, nilM, Out.andThen, List.getElem?_cons_succ, List.getElem?_cons_zero, optM, e1, List.length_nil, Nat.zero_le, if_true, Out.stm, skipS, SO.andThen]
    rw [e2]; exact e
/-- what the rounds' call leaves -/
def RoundsAt (T : List Addr) (v : V) (H' : Hp) : Prop := (∀ P ∈ T, GxR.TabG H' P) ∧ ∃ p vs, v = .ref p ∧ H' p = some (.lst vs) ∧ ∀ x ∈ vs, ∃ (q : Addr) (a b d : Int), x = .ref q ∧ H' q = some (.lst [.int a, .int b, .int d])
def spRounds (K : PySem.W.Frag) (T : List Addr) : Sp := fun vs H Q _ => ∃ (a : Addr) (ns : List Int) (m : Int), vs = [.ref a, .int m] ∧ SqL K H a (ns.map V.int) ∧ ns.length ≤ 63 ∧ (∀ P ∈ T, GxR.TabG H P) ∧ ∀ v H', RoundsAt T v H' → Q v H'
def sliceT (K : PySem.W.Frag) : TS := tAsg (tSl (rSlL K) (tVar 0) tNoPart (tPart (tVar 1))) (gName 2)
theorem cutV_ints (ns : List Int) (lo hi : Option Int) : ∃ cs : List Int, cutV (ns.map V.int) lo hi = cs.map V.int ∧ cs.length ≤ ns.length := by
  refine ⟨(ns.drop (HT.sIx ns.length 0 lo)).take (HT.sIx ns.length ns.length hi - HT.sIx ns.length 0 lo), ?_, by simp; omega⟩
  unfold cutV
  rw [List.length_map, ← List.map_drop, ← List.map_take]
theorem RD.lstI {tk : Nat → Option V} {Z : Addr → Prop} {H : Hp} {ds : List D} {v : V} (r : RD tk Z H (.lst ds) v) : ∃ p vs, v = .ref p ∧ H p = some (.lst vs) ∧ RDs tk Z H ds vs := by
  cases r with
  | obj z ro =>
    cases ro with
    | lst h r => exact ⟨_, _, rfl, h, r⟩
theorem RDs.mem {tk : Nat → Option V} {Z : Addr → Prop} {H : Hp} : ∀ {ds : List D} {vs : List V} {x : V}, RDs tk Z H ds vs → x ∈ vs → ∃ d ∈ ds, RD tk Z H d x
  | _, _, _, .nil, h => by cases h
  | _, _, _, .cons r t, h => by
    rcases List.mem_cons.mp h with rfl | h
    · exact ⟨_, List.mem_cons_self, r⟩
    · obtain ⟨d, h1, h2⟩ := t.mem h
      exact ⟨d, List.mem_cons_of_mem _ h1, h2⟩
section
variable {P : Program} {w : World} {K : PySem.W.Frag} {mg : Str → Option Value} {base : Heap} {G : G0}
theorem rounds_ok {x qual : Str} {st : Stmt} {f : Addr} {fd : FuncData} {N ps : List Str} {k : Nat} (F : Fun K x qual st f fd) (S : FnScope N ps (defScope st)) (hN : N.length = 4) (hps : ps.length = 2)
    (hT : ∀ (cdv : Value) (A : Around) (outer : List Env) (sh : Shared) (H : Hp) (B : Bc), BOf G B → B.Rz = (fun _ => False) → Room k (A.deeper (envOfC qual (defScope st) sh.heap.objs.size f cdv)) →
      PSs (cxOf (CX P w) P w K mg base N qual (defScope st) f cdv A outer sh H B.E) (defBody st) (tSeq (sliceT K) (RdS B b_rest))) :
    FnOk P w K mg base (CX P w) (k + 1) f fd ps (spRounds K G.T) := by
  refine F.okX S (fun vs H Q E h => ?_) (fun cdv A outer sh H vs Q E hr h => ?_)
  · obtain ⟨a, ns, m, rfl, _⟩ := h
    rw [hps]; rfl
  · obtain ⟨a, ns, m, rfl, hS, hl, hT0, hq⟩ := h
    let B : Bc := { g := G.at none, H0 := H, Z0 := fun _ => False, cls := G.cls, Ex := fun _ _ => False, E := E, Rz := fun _ => False, hE := fun _ _ _ _ _ z => z.elim }
    refine ⟨_, hT cdv A outer sh H B ⟨⟨none, rfl⟩, rfl⟩ rfl hr, ?_⟩
    have es : start N [V.ref a, .int m] = [some (.ref a), some (.int m), none, none] := by
      unfold start
      rw [hN]; rfl
    rw [es]
    refine ⟨.ref a, rfl, .int m, rfl, m, rfl, a, _, rfl, hS, fun p hp => ?_⟩
    obtain ⟨cs, ec, lc⟩ := cutV_ints ns none (some m)
    rw [ec]
    show RdS B b_rest _ _ _
    have good0 : Good (G.at none) (fun _ => False) H (0, 0, 0) := ⟨fun _ z => z.elim, fun q e => (nomatch e), hT0⟩
    have gr : Grow (G.at none) (fun _ => False) H (fun q => False ∨ q = p) (upd H p (.lst (cs.map V.int))) := grow_new hp fix_lst
    obtain ⟨ds, e1, e2, e3⟩ := rest_eval m .no rfl cs (by omega) (0, 0, 0)
    refine ⟨fun q => False ∨ q = p, [.no, .val (.int m), .val (.lst (cs.map D.int)), .no], (0, 0, 0), ⟨good0.grow gr, gr.ext, fun _ z => z.elim, fun q z => ?_, rfl, fun i d e => ?_, fun i d e => ?_, fun _ z => z.elim, fun i j d e q h1 => ?_⟩, ?_⟩
    · rcases z with z | rfl
      · exact z.elim
      · exact .inr hp
    · match i, e with
      | 0, e => cases e
      | 1, e => cases e; exact ⟨_, rfl, .int m⟩
      | 2, e => cases e; exact ⟨_, rfl, .obj (.inr rfl) (.lst upd_same (rds_ints cs))⟩
      | 3, e => cases e
      | i + 4, e => simp at e
    · match i, e with
      | 0, e => cases e
      | 1, e => cases e
      | 2, e => cases e
      | 3, e => cases e
      | i + 4, e => simp at e
    · match i, h1 with
      | 0, e => cases e
      | 1, e => cases e
      | 2, e => cases e
      | 3, e => cases e
      | i + 4, e => simp at e
    · rw [e1]
      intro Z' ρ' σ' v H' j rd
      refine hq v H' ⟨j.good.tabs, ?_⟩
      obtain ⟨q, vs, rfl, hv, rs⟩ := rd.lstI
      refine ⟨q, vs, rfl, hv, fun x hx => ?_⟩
      obtain ⟨d, hd, rx⟩ := rs.mem hx
      obtain ⟨a, b, c, rfl⟩ := e2 d hd
      obtain ⟨q2, vs2, rfl, hv2, rs2⟩ := rx.lstI
      refine ⟨q2, a, b, c, rfl, ?_⟩
      rcases (RDs.ints (is := [a, b, c]) rs2) with e | e
      · rw [hv2, e]; rfl
      · exact e.elim

/-! the law itself -/
def spLaw (K : PySem.W.Frag) (T : List Addr) : Sp := fun vs H Q _ => ∃ (a : Addr) (ns : List Int), vs = [.ref a] ∧ SqL K H a (ns.map V.int) ∧ ns.length ≤ 63 ∧ (∀ P ∈ T, GxR.TabG H P) ∧ ∀ H', Q (.bl true) H'
/-- a turn of the law's loop, whatever the dice -/
def turnF (n d : Nat) : Fr := (List.replicate n Slot.no).set d (.val (.tok 0))
def TurnOk (n d : Nat) (s : SM) : Prop := ∀ ω, (∃ ρ ω', s (turnF n d) ω = .nx ρ ω' ∧ ρ.length = n) ∨ ∃ ρ ω', s (turnF n d) ω = .ct ρ ω' ∧ ρ.length = n
/-- the body's reading, for some ground -/
def ExS (G : G0) (E : XK) (s : SM) : TS := fun D σ H => ∃ B, BOf G B ∧ B.E = E ∧ B.Rz = (fun _ => False) ∧ RdS B s D σ H
theorem law_ok {x qual : Str} {st : Stmt} {f : Addr} {fd : FuncData} {N ps : List Str} {k d : Nat} {m : Int} {s : SM} (F : Fun K x qual st f fd) (S : FnScope N ps (defScope st)) (hps : ps.length = 1) (hd0 : 0 < d) (hdN : d < N.length) (hG : ∀ pd, G.tk pd 0 = pd.map V.ref)
    (hT : ∀ (cdv : Value) (A : Around) (outer : List Env) (sh : Shared) (H : Hp) (E : XK), Room k (A.deeper (envOfC qual (defScope st) sh.heap.objs.size f cdv)) →
      PSs (cxOf (CX P w) P w K mg base N qual (defScope st) f cdv A outer sh H E) (defBody st) (tSeq (tFor (iList K (tCall (spRounds K G.T) [] E (tCons (tVar 0) (tCons (tC (.int m)) tNil)))) (gName d) (ExS G E s)) (tRet (tC (.bl true)))))
    (ok : TurnOk N.length d s) : FnOk P w K mg base (CX P w) (k + 1) f fd ps (spLaw K G.T) := by
  refine F.okX S (fun vs H Q E h => ?_) (fun cdv A outer sh H vs Q E hr h => ?_)
  · obtain ⟨a, ns, rfl, _⟩ := h
    rw [hps]; rfl
  · obtain ⟨a, ns, rfl, hS, hl, hT0, hq⟩ := h
    refine ⟨_, hT cdv A outer sh H E hr, ?_⟩
    have h0 : (start N [V.ref a])[0]? = some (some (.ref a)) := by
      unfold start; rfl
    have hlen : (start N [V.ref a]).length = N.length := start_len N _ (by simp; omega)
    refine ⟨_, h0, a, ns, m, rfl, hS, hl, hT0, fun v H1 hR => ?_⟩
    obtain ⟨hT1, p, vs, rfl, hp, hd⟩ := hR
    refine ⟨p, rfl, ⟨_, SqL.of hp⟩, for_list (K := K) (a := p) (xs := vs) (fun i σ H2 => σ.length = N.length ∧ H2 p = some (.lst vs) ∧ (∀ P ∈ G.T, GxR.TabG H2 P) ∧ ∀ x ∈ vs, ∃ (q : Addr) (a b d : Int), x = .ref q ∧ H2 q = some (.lst [.int a, .int b, .int d])) ⟨hlen, hp, hT1, hd⟩ (fun i σ H2 _ h => SqL.of h.2.1) ?_ ?_⟩
    · rintro i y σ H2 hi ⟨hl2, hp2, hT2, hd2⟩
      obtain ⟨q, a1, b1, c1, rfl, hq2⟩ := hd2 y (List.mem_of_getElem? hi)
      have npq : p ≠ q := by
        rintro rfl
        rw [hp2] at hq2
        cases hq2
        obtain ⟨q', _, _, _, e, _⟩ := hd2 (.int a1) List.mem_cons_self
        cases e
      let B : Bc := { g := G.at (some q), H0 := H2, Z0 := fun _ => False, cls := G.cls, Ex := fun _ _ => False, E := E, Rz := fun _ => False, hE := fun _ _ _ _ _ z => z.elim }
      have good : Good B.g (fun _ => False) H2 (a1, b1, c1) := ⟨fun _ z => z.elim, fun q' e => (by cases e; exact hq2), hT2⟩
      have fr : ∀ (k : Nat) (x : Slot), (turnF N.length d)[k]? = some x → (k = d ∧ x = .val (.tok 0)) ∨ x = .no := fun k x e => by
        unfold turnF at e
        by_cases hk : d = k
        · subst hk
          rw [List.getElem?_set_self (by simpa using hdN)] at e
          exact .inl ⟨rfl, (Option.some.inj e).symm⟩
        · rw [List.getElem?_set_ne hk, List.getElem?_replicate] at e
          split at e
          · exact .inr (Option.some.inj e).symm
          · cases e
      have j : J B (fun _ => False) (turnF N.length d) (σ.set d (some (.ref q))) H2 (a1, b1, c1) := by
        refine ⟨good, .refl, fun _ z => z.elim, fun _ z => z.elim, by simp [turnF, hl2], fun k dd e => ?_, fun k dd e => ?_, fun _ z => z.elim, fun k l dd e q h1 => ?_⟩
        · rcases fr k _ e with ⟨e1, e2⟩ | e2
          · cases e2
            rw [e1]
            refine ⟨.ref q, ?_, .tok (by show G.tk (some q) 0 = _; rw [hG]; rfl)⟩
            rw [List.getElem?_set_self (by rw [hl2]; exact hdN)]
          · cases e2
        · rcases fr k _ e with ⟨_, e⟩ | e <;> cases e
        · rcases fr k _ h1 with ⟨_, e⟩ | e <;> cases e
      have fin : ∀ (Z' : Addr → Prop) (ρ : Fr) (ω' : W3) (σ' : St) (H3 : Hp), J B Z' ρ σ' H3 ω' → ρ.length = N.length → σ'.length = N.length ∧ H3 p = some (.lst vs) ∧ (∀ P ∈ G.T, GxR.TabG H3 P) ∧ ∀ x ∈ vs, ∃ (q : Addr) (a b d : Int), x = .ref q ∧ H3 q = some (.lst [.int a, .int b, .int d]) := fun Z' ρ ω' σ' H3 j' l' => by
        refine ⟨by rw [← j'.len]; exact l', j'.ext.keep p _ hp2 (fun e => npq (Option.some.inj e).symm) fix_lst, j'.good.tabs, fun x hx => ?_⟩
        obtain ⟨q', a2, b2, c2, rfl, hq'⟩ := hd2 x hx
        by_cases e : q' = q
        · subst e
          exact ⟨q', _, _, _, rfl, j'.good.dice q' rfl⟩
        · exact ⟨q', a2, b2, c2, rfl, j'.ext.keep q' _ hq' (fun z => e (Option.some.inj z).symm) fix_lst⟩
      refine ⟨B, ⟨⟨some q, rfl⟩, rfl⟩, rfl, rfl, _, _, _, j, ?_⟩
      rcases ok (a1, b1, c1) with ⟨ρ, ω', e, l⟩ | ⟨ρ, ω', e, l⟩
      · rw [e]
        exact fun Z' σ' H3 _ j' => fin Z' ρ ω' σ' H3 j' l
      · rw [e]
        exact fun Z' σ' H3 _ j' => fin Z' ρ ω' σ' H3 j' l
    · rintro σ H2 _
      exact hq H2
theorem x_s {N : List Str} {qual : Str} {scope : Scope} {f : Addr} {cd : Value} {A : Around} {outer : List Env} {sh : Shared} {H : Hp} {E : XK} {body : List Stmt} {s : SM}
    (h : ∀ B : Bc, BOf G B → B.Rz = (fun _ => False) → PSs (cxOf (CX P w) P w K mg base N qual scope f cd A outer sh H B.E) body (RdS B s)) : PSs (cxOf (CX P w) P w K mg base N qual scope f cd A outer sh H E) body (ExS G E s) :=
  ⟨fun pins s σ H D I ⟨B, hB, hE, hz, q⟩ => by
    subst hE
    exact (h B hB hz).run pins s σ H D I q⟩
def KnR (P : Program) (w : World) (K : PySem.W.Frag) (mg : Str → Option Value) (base : Heap) (G : G0) (x : Str) (k : Nat) : Prop :=
  ∃ (f : Addr) (fd : FuncData) (ps : List Str), FnOk P w K mg base (CX P w) k f fd ps (spRounds K G.T) ∧ mg x = some (.ref f) ∧ PySem.W.keepIn K (.ref f) = true ∧ Binds K fd ps []
theorem mkKnR {x : Str} {f : Addr} {fd : FuncData} {ps : List Str} {k : Nat} (h : FnOk P w K mg base (CX P w) k f fd ps (spRounds K G.T)) (hm : mg x = some (.ref f)) (hk : PySem.W.keepIn K (.ref f) = true) (hb : Binds K fd ps []) : KnR P w K mg base G x k := ⟨f, fd, ps, h, hm, hk, hb⟩
end
theorem hCX0 {P : Program} : ∀ (w : World) (H : Hp) (s : Shared) (e : Value) (s' : Shared), L2.CX P w [] H s (fun _ _ _ => False) e s' → False := fun _ _ _ _ _ h => by
  obtain ⟨_, _, _, _, _, _, _, _, _, _, _, _, z⟩ := h
  exact z.elim
section
variable {X : Cx} {G : G0} {E : XK} {e : Expr} {es : List Expr} {x : Str} {p pos : Pos} {ta : TA}
theorem m_rounds {k j : Nat} (kn : KnR X.prog X.w X.K X.mg X.base G x j) (hr : Room k X.A) (hk : j ≤ k) (hg : Gl X x) (hx : Passes (CX X.prog X.w) X E) (ha : PA X (e :: es) ta)
    (hdb : (x == ("__debug__" : Str)) = false := by decide) (he : starEach (e :: es) X.env = (false, eval e X.env) :: starEach es X.env := by rfl) (hpl : (backTo pos (starEach es X.env)).any (·.1) = false := by rfl) :
    PE X (.Call (.Name x p) (e :: es) [] pos) (tCall (spRounds X.K G.T) [] E ta) := by
  obtain ⟨f, fd, ps, F, hm, hkp, hb⟩ := kn
  exact pe_call F (hr.mono hk) hg hm hkp hb .nil hx ha hdb he hpl
end
end L2.Fl

namespace L2.Fl
open PySem PySem.Spec PyProof.Rows

/-! ### evaluation of mirrors -/
theorem forS_inv {t : TM} {s : SM} (I : Nat → Fr → W3 → Prop) : ∀ (ds : List D) (i : Nat) (ρ : Fr) (ω : W3), I i ρ ω →
    (∀ k d ρ ω, ds[k]? = some d → I (i + k) ρ ω → ∃ ρ1 ρ2 ω2, t d ρ = some ρ1 ∧ (s ρ1 ω = .nx ρ2 ω2 ∨ s ρ1 ω = .ct ρ2 ω2) ∧ I (i + k + 1) ρ2 ω2) →
    ∃ ρ' ω', forS t s ds ρ ω = .nx ρ' ω' ∧ I (i + ds.length) ρ' ω'
  | [], i, ρ, ω, h, _ => ⟨ρ, ω, rfl, h⟩
  | d :: ds, i, ρ, ω, h, hs => by
    obtain ⟨ρ1, ρ2, ω2, e1, e2, h2⟩ := hs 0 d ρ ω rfl h
    obtain ⟨ρ', ω', e3, h3⟩ := forS_inv I ds (i + 1) ρ2 ω2 (by simpa using h2) (fun k d' ρ ω hk hI => by
      have e : i + 1 + k = i + (k + 1) := by omega
      rw [e] at hI ⊢
      exact hs (k + 1) d' ρ ω (by simpa using hk) hI)
    refine ⟨ρ', ω', ?_, by have e : i + (d :: ds).length = i + 1 + ds.length := by simp; omega
                           rw [e]; exact h3⟩
    unfold forS
    rw [e1]
    rcases e2 with e2 | e2 <;> simp only [e2, e3]
/-- a loop that may return before its end -/
theorem forS_ret {t : TM} {s : SM} (I : Nat → Fr → W3 → Prop) (R : SO → Prop) : ∀ (ds : List D) (i : Nat) (ρ : Fr) (ω : W3), I i ρ ω →
    (∀ k d ρ ω, ds[k]? = some d → I (i + k) ρ ω → ∃ ρ1, t d ρ = some ρ1 ∧ ((∃ ρ2 ω2, (s ρ1 ω = .nx ρ2 ω2 ∨ s ρ1 ω = .ct ρ2 ω2) ∧ I (i + k + 1) ρ2 ω2) ∨ (∃ x ω2, s ρ1 ω = .rt x ω2 ∧ R (.rt x ω2)))) →
    (∀ ρ ω, I (i + ds.length) ρ ω → R (.nx ρ ω)) → R (forS t s ds ρ ω)
  | [], i, ρ, ω, h, _, h2 => h2 ρ ω h
  | d :: ds, i, ρ, ω, h, hs, hR => by
    obtain ⟨ρ1, e1, q⟩ := hs 0 d ρ ω rfl h
    unfold forS
    rw [e1]
    rcases q with ⟨ρ2, ω2, e2, h2⟩ | ⟨x, ω2, e2, h2⟩
    · have := forS_ret I R ds (i + 1) ρ2 ω2 (by simpa using h2) (fun k d' ρ ω hk hI => by
        have e : i + 1 + k = i + (k + 1) := by omega
        rw [e] at hI ⊢
        exact hs (k + 1) d' ρ ω (by simpa using hk) hI) (fun ρ ω hI => hR ρ ω (by
          have e : i + (d :: ds).length = i + 1 + ds.length := by simp; omega
          rw [e]; exact hI))
      rcases e2 with e2 | e2 <;> simp only [e2] <;> exact this
    · simp only [e2]; exact h2
/-- a comprehension whose elements do nothing else -/
theorem compL_map {vs : List Nat} {t : TM} {tt : EM Bool} {te : EM D} {ρ : Fr} {ω : W3} (g : D → Option D) : ∀ (ds acc : List D),
    (∀ d ∈ ds, ∃ ρ1 ρ2, t d ρ = some ρ1 ∧ ((g d = none ∧ tt ρ1 ω = .ok false ρ2 ω ∧ wipeF vs ρ2 = ρ) ∨ ∃ x ρ3, g d = some x ∧ tt ρ1 ω = .ok true ρ2 ω ∧ te ρ2 ω = .ok x ρ3 ω ∧ wipeF vs ρ3 = ρ)) →
    acc.length + ds.length ≤ LIM → compL vs t tt te ds acc ρ ω = .ok (acc ++ ds.filterMap g) ρ ω
  | [], acc, _, _ => by simp [compL]
  | d :: ds, acc, h, hl => by
    obtain ⟨ρ1, ρ2, e1, q⟩ := h d List.mem_cons_self
    unfold compL
    rw [e1]
    rcases q with ⟨g1, e2, e3⟩ | ⟨x, ρ3, g1, e2, e3, e4⟩
    · simp only [e2, Out.thenB, e3, List.filterMap_cons, g1]
      exact compL_map g ds acc (fun d' hd => h d' (List.mem_cons_of_mem _ hd)) (by simp at hl; omega)
    · have hlt : acc.length < LIM := by simp at hl; omega
      simp only [e2, Out.thenB, e3, hlt, if_true, e4, List.filterMap_cons, g1]
      have := compL_map (vs := vs) (t := t) (tt := tt) (te := te) (ρ := ρ) (ω := ω) g ds (acc ++ [x]) (fun d' hd => h d' (List.mem_cons_of_mem _ hd)) (by simp at hl ⊢; omega)
      rw [this, List.append_assoc]; rfl
/-- a comprehension that draws: each element is some value with the property p -/
theorem compL_roll {vs : List Nat} {t : TM} {te : EM D} {ρ : Fr} (p : D → Prop) : ∀ (ds acc : List D) (ω : W3),
    (∀ d ∈ ds, ∀ ω, ∃ ρ1, t d ρ = some ρ1 ∧ ∃ x ρ3 ω3, te ρ1 ω = .ok x ρ3 ω3 ∧ p x ∧ wipeF vs ρ3 = ρ) →
    acc.length + ds.length ≤ LIM → ∃ xs ω', compL vs t yesT te ds acc ρ ω = .ok (acc ++ xs) ρ ω' ∧ (∀ x ∈ xs, p x) ∧ xs.length = ds.length
  | [], acc, ω, _, _ => ⟨[], ω, by simp [compL], by simp, rfl⟩
  | d :: ds, acc, ω, h, hl => by
    obtain ⟨ρ1, e1, x, ρ3, ω3, e3, hp, e4⟩ := h d List.mem_cons_self ω
    have hlt : acc.length < LIM := by simp at hl; omega
    obtain ⟨xs, ω', e5, h5, h6⟩ := compL_roll p ds (acc ++ [x]) ω3 (fun d' hd => h d' (List.mem_cons_of_mem _ hd)) (by simp at hl ⊢; omega)
    refine ⟨x :: xs, ω', ?_, ?_, by simp [h6]⟩
    · unfold compL
      simp only [e1, yesT, Out.thenB, e3, hlt, if_true, e4, e5, List.append_assoc]; rfl
    · intro y hy
      rcases List.mem_cons.mp hy with rfl | hy
      · exact hp
      · exact h5 y hy
theorem subD_i (i j : Int) : subD (.int i) (.int j) = some (.int (i - j)) := rfl
theorem addD_i (i j : Int) : addD (.int i) (.int j) = some (.int (i + j)) := rfl
theorem ltD_i (i j : Int) : ltD (.int i) (.int j) = some (.bl (decide (i < j))) := rfl
theorem leD_i (i j : Int) : leD (.int i) (.int j) = some (.bl (decide (i ≤ j))) := rfl
theorem gtD_i (i j : Int) : gtD (.int i) (.int j) = some (.bl (decide (j < i))) := rfl
theorem geD_i (i j : Int) : geD (.int i) (.int j) = some (.bl (decide (j ≤ i))) := rfl
theorem min2D_i (i j : Int) : min2D (.int i) (.int j) = some (.int (if j < i then j else i)) := rfl
theorem max2D_i (i j : Int) : max2D (.int i) (.int j) = some (.int (if j > i then j else i)) := rfl
theorem mulD_i {i j : Int} (h : cMul i j = true) : mulD (.int i) (.int j) = some (.int (i * j)) := by show (if cMul i j = true then _ else _) = _; rw [if_pos h]
theorem modD_i {i j : Int} (h : cMod i j = true) : modD (.int i) (.int j) = some (.int (i.fmod j)) := by show (if cMod i j = true then _ else _) = _; rw [if_pos h]
theorem fdivD_i {i j : Int} (h : cDiv i j = true) : fdivD (.int i) (.int j) = some (.int (i.fdiv j)) := by show (if cDiv i j = true then _ else _) = _; rw [if_pos h]
theorem negD_i (i : Int) : negD (.int i) = some (.int (-i)) := rfl
theorem runM_rt {n : Nat} {s : SM} {ds : List D} {ω ω' : W3} {d : D} (h : s (startF n ds) ω = .rt d ω') : runM n s ds ω = .ok d ω' := by unfold runM; rw [h]
theorem runM_nx {n : Nat} {s : SM} {ds : List D} {ω ω' : W3} {ρ : Fr} (h : s (startF n ds) ω = .nx ρ ω') : runM n s ds ω = .ok .non ω' := by unfold runM; rw [h]
theorem runM_exc {n : Nat} {s : SM} {ds : List D} {ω ω' : W3} {c : Nat} (h : s (startF n ds) ω = .exc c ω') : runM n s ds ω = .exc c ω' := by unfold runM; rw [h]
section
variable {s u : SM} {ρ ρ' ρ'' : Fr} {ω ω' ω'' : W3} {f g : EM D} {t : EM Bool} {d x y : D} {i k c : Nat} {fl : EM (List D)} {ds : List D} {tm : TM}
theorem seqS_nx (h : s ρ ω = .nx ρ' ω') : seqS s u ρ ω = u ρ' ω' := by unfold seqS; rw [h]; rfl
theorem seqS_rt (h : s ρ ω = .rt d ω') : seqS s u ρ ω = .rt d ω' := by unfold seqS; rw [h]; rfl
theorem seqS_exc (h : s ρ ω = .exc c ω') : seqS s u ρ ω = .exc c ω' := by unfold seqS; rw [h]; rfl
theorem seqS_ct (h : s ρ ω = .ct ρ' ω') : seqS s u ρ ω = .ct ρ' ω' := by unfold seqS; rw [h]; rfl
theorem seqS_bk (h : s ρ ω = .bk ρ' ω') : seqS s u ρ ω = .bk ρ' ω' := by unfold seqS; rw [h]; rfl
theorem setS_ok (h : f ρ ω = .ok d ρ' ω') : setS i f ρ ω = .nx (ρ'.set i (.val d)) ω' := by unfold setS; rw [h]; rfl
theorem ownS_ok (h : fl ρ ω = .ok ds ρ' ω') : ownS i fl ρ ω = .nx (ρ'.set i (.own (.lst ds))) ω' := by unfold ownS; rw [h]; rfl
theorem setS_exc (h : f ρ ω = .exc c ω') : setS i f ρ ω = .exc c ω' := by unfold setS; rw [h]; rfl
theorem ifS_t (h : t ρ ω = .ok true ρ' ω') : ifS t s u ρ ω = s ρ' ω' := by unfold ifS; rw [h]; rfl
theorem ifS_f (h : t ρ ω = .ok false ρ' ω') : ifS t s u ρ ω = u ρ' ω' := by unfold ifS; rw [h]; rfl
theorem rtS_ok (h : f ρ ω = .ok d ρ' ω') : rtS f ρ ω = .rt d ω' := by unfold rtS; rw [h]; rfl
theorem rtS_exc (h : f ρ ω = .exc c ω') : rtS f ρ ω = .exc c ω' := by unfold rtS; rw [h]; rfl
theorem exS_ok (h : f ρ ω = .ok d ρ' ω') : exS f ρ ω = .nx ρ' ω' := by unfold exS; rw [h]; rfl
theorem forM_ok (h : fl ρ ω = .ok ds ρ' ω') : forM fl tm s ρ ω = forS tm s ds ρ' ω' := by unfold forM; rw [h]; rfl
theorem asgS_ok (h : f ρ ω = .ok d ρ' ω') (h2 : tm d ρ' = some ρ'') : asgS tm f ρ ω = .nx ρ'' ω' := by unfold asgS; rw [h]; simp only [Out.stm, h2]
theorem parS_ok (h : fl ρ ω = .ok [x, y] ρ' ω') : parS i k fl ρ ω = .nx ((ρ'.set i (.val x)).set k (.val y)) ω' := by unfold parS; rw [h]; rfl
theorem appS_ok (h0 : ρ[i]? = some (.own (.lst ds))) (h : f ρ ω = .ok d ρ' ω') (h1 : ρ'[i]? = some (.own (.lst ds))) (hl : ds.length < LIM) : appS i f ρ ω = .nx (ρ'.set i (.own (.lst (ds ++ [d])))) ω' := by
  unfold appS
  rw [h0, h]
  simp only [Out.stm, h1, hl, if_true]
theorem skipS_eq : skipS ρ ω = .nx ρ ω := rfl
theorem raS_eq : raS c ρ ω = .exc c ω := rfl
theorem forS_nil : forS tm s [] ρ ω = .nx ρ ω := rfl
theorem forS_nx (h : tm d ρ = some ρ') (h2 : s ρ' ω = .nx ρ'' ω'') : forS tm s (d :: ds) ρ ω = forS tm s ds ρ'' ω'' := by simp only [forS, h, h2]
theorem forS_ct (h : tm d ρ = some ρ') (h2 : s ρ' ω = .ct ρ'' ω'') : forS tm s (d :: ds) ρ ω = forS tm s ds ρ'' ω'' := by simp only [forS, h, h2]
theorem forS_bk (h : tm d ρ = some ρ') (h2 : s ρ' ω = .bk ρ'' ω'') : forS tm s (d :: ds) ρ ω = .nx ρ'' ω'' := by simp only [forS, h, h2]
theorem forS_rt (h : tm d ρ = some ρ') (h2 : s ρ' ω = .rt x ω'') : forS tm s (d :: ds) ρ ω = .rt x ω'' := by simp only [forS, h, h2]
theorem forS_exc (h : tm d ρ = some ρ') (h2 : s ρ' ω = .exc c ω'') : forS tm s (d :: ds) ρ ω = .exc c ω'' := by simp only [forS, h, h2]
theorem whileS_f {n : Nat} (h : t ρ ω = .ok false ρ' ω') : whileS t s (n + 1) ρ ω = .nx ρ' ω' := by simp only [whileS, h, Out.stm]
theorem whileS_t {n : Nat} (h : t ρ ω = .ok true ρ' ω') (h2 : s ρ' ω' = .nx ρ'' ω'') : whileS t s (n + 1) ρ ω = whileS t s n ρ'' ω'' := by simp only [whileS, h, Out.stm, h2]
theorem callM_ok {fM : FM} {n : Nat} {xs : List D} (h : fl ρ ω = .ok xs ρ' ω') (hn : xs.length = n) (h2 : fM xs ω' = .ok d ω'') : callM fM n fl ρ ω = .ok d ρ' ω'' := by unfold callM; rw [h]; simp only [Out.andThen, hn, if_true, h2]
theorem callM_exc {fM : FM} {n : Nat} {xs : List D} (h : fl ρ ω = .ok xs ρ' ω') (hn : xs.length = n) (h2 : fM xs ω' = .exc c ω'') : callM fM n fl ρ ω = .exc c ω'' := by unfold callM; rw [h]; simp only [Out.andThen, hn, if_true, h2]
theorem consM_ok (h1 : f ρ ω = .ok d ρ' ω') (h2 : fl ρ' ω' = .ok ds ρ'' ω'') : consM f fl ρ ω = .ok (d :: ds) ρ'' ω'' := by unfold consM; rw [h1]; simp only [Out.andThen, h2]
theorem nilM_eq : nilM ρ ω = .ok [] ρ ω := rfl
theorem tupM_ok (h : fl ρ ω = .ok ds ρ' ω') (hl : ds.length ≤ LIM) : tupM fl ρ ω = .ok (.tup ds) ρ' ω' := by unfold tupM; rw [h]; simp only [Out.andThen, hl, if_true]
theorem lstF_ok (h : fl ρ ω = .ok ds ρ' ω') (hl : ds.length ≤ LIM) : lstF fl ρ ω = .ok ds ρ' ω' := by unfold lstF; rw [h]; simp only [Out.andThen, hl, if_true]
theorem lim2 {n : Nat} (h : n ≤ 1000) : n ≤ LIM := by unfold LIM; omega
theorem frz_ok (h : fl ρ ω = .ok ds ρ' ω') : frz fl ρ ω = .ok (.lst ds) ρ' ω' := by unfold frz; rw [h]; rfl
theorem lcM_ok {vs : List Nat} {it : EM (List D)} {tt : EM Bool} {te : EM D} {xs : List D} (h : it ρ ω = .ok ds ρ' ω') (hn : noOwn vs ρ' = true) (hc : compL vs tm tt te ds [] (wipeF vs ρ') ω' = .ok xs ρ'' ω'') : lcM vs it tm tt te ρ ω = .ok xs (restF vs ρ' ρ'') ω'' := by
  unfold lcM
  rw [h]
  simp only [Out.andThen, hn, if_true, hc, Out.thenB]
end
/-! whole numbers in lists -/
abbrev L (xs : List Int) : D := .lst (xs.map D.int)
abbrev TU (xs : List Int) : D := .tup (xs.map D.int)
def at' (xs : List Int) (k : Int) : Int := xs.getD k.toNat 0
theorem ixD_L {xs : List Int} {k : Int} (h0 : 0 ≤ k) (h1 : k < xs.length) : ixD (L xs) (.int k) = some (.int (at' xs k)) := by
  have hk : k.toNat < xs.length := by omega
  unfold ixD items? atI ixN at'
  simp only [List.length_map]
  rw [if_pos h0, if_pos (by omega)]
  simp [hk]
theorem ixD_T {xs : List Int} {k : Int} (h0 : 0 ≤ k) (h1 : k < xs.length) : ixD (TU xs) (.int k) = some (.int (at' xs k)) := by
  have hk : k.toNat < xs.length := by omega
  unfold ixD items? atI ixN at'
  simp only [List.length_map]
  rw [if_pos h0, if_pos (by omega)]
  simp [hk]
theorem ixD_at {xs : List D} {a : D} {k : Int} {d : D} (hi : items? a = some xs) (h0 : 0 ≤ k) (h1 : xs[k.toNat]? = some d) : ixD a (.int k) = some d := by
  have hk : k.toNat < xs.length := (List.getElem?_eq_some_iff.mp h1).1
  unfold ixD atI ixN
  rw [hi]
  simp only
  rw [if_pos h0, if_pos (by omega)]
  simpa using h1
theorem ixD_neg {xs : List D} {a : D} {k : Int} {d : D} (hi : items? a = some xs) (h0 : k < 0) (hk : 0 ≤ k + xs.length) (h1 : xs[(k + xs.length).toNat]? = some d) : ixD a (.int k) = some d := by
  have h2 : (k + xs.length).toNat < xs.length := (List.getElem?_eq_some_iff.mp h1).1
  unfold ixD atI ixN
  rw [hi]
  simp only
  rw [if_neg (by omega), if_pos (by omega)]
  simpa using h1
theorem lenD_L (xs : List Int) : lenD (L xs) = some (.int xs.length) := by simp [lenD, items?]
theorem rangeL_eq (lo : Int) (n : Nat) : rangeL lo n = ((List.range n).map fun (i : Nat) => lo + (i : Int)).map D.int := by simp [rangeL, List.map_map]
def rangeI (lo : Int) (n : Nat) : List Int := (List.range n).map fun (i : Nat) => lo + (i : Int)
theorem rangeL_I (lo : Int) (n : Nat) : rangeL lo n = (rangeI lo n).map D.int := rangeL_eq lo n
theorem mem_rangeI {lo : Int} {n : Nat} {x : Int} : x ∈ rangeI lo n ↔ lo ≤ x ∧ x < lo + n := by
  unfold rangeI
  rw [List.mem_map]
  constructor
  · rintro ⟨i, hi, rfl⟩
    rw [List.mem_range] at hi
    omega
  · rintro ⟨h1, h2⟩
    exact ⟨(x - lo).toNat, List.mem_range.mpr (by omega), by omega⟩
theorem rangeI_len (lo : Int) (n : Nat) : (rangeI lo n).length = n := by simp [rangeI]
theorem rgOk_small {i : Int} (h : -4611686018427387903 ≤ i) (h2 : i < 4611686018427387903) : rgOk i = true := inBd_of (by omega) (by omega)
theorem filterMap_ints {p : Int → Bool} {f : D → Option D} (h : ∀ i, f (.int i) = if p i then some (.int i) else none) : ∀ xs : List Int, (xs.map D.int).filterMap f = (xs.filter p).map D.int
  | [] => rfl
  | x :: xs => by
    simp only [List.map_cons, List.filterMap_cons, h, List.filter_cons]
    by_cases hp : p x = true
    · simp only [hp, if_true, List.map_cons, filterMap_ints h xs]
    · simp only [Bool.not_eq_true] at hp
      simp only [hp, Bool.false_eq_true, if_false, filterMap_ints h xs]
mutual
theorem eqd_refl : ∀ (d : D) (n : Nat), okD d n = true → eqd d d = true
  | .non, _, _ => by simp only [eqd]
  | .bl b, _, _ => by simp [eqd]
  | .int b, _, _ => by simp [eqd]
  | .str b, _, _ => by simp [eqd]
  | .tok _, _, h => by simp [okD] at h
  | .dct _, _, h => by simp [okD] at h
  | .tup xs, n, h => by
    cases n with
    | zero => simp [okD] at h
    | succ n => simp only [okD] at h; simp only [eqd]; exact eqds_refl xs n h
  | .lst xs, n, h => by
    cases n with
    | zero => simp [okD] at h
    | succ n => simp only [okD] at h; simp only [eqd]; exact eqds_refl xs n h
theorem eqds_refl : ∀ (ds : List D) (n : Nat), okDs ds n = true → eqds ds ds = true
  | [], _, _ => by simp only [eqds]
  | d :: ds, n, h => by
    simp only [okDs, Bool.and_eq_true] at h
    simp only [eqds, eqd_refl d n h.1, eqds_refl ds n h.2, Bool.and_self]
end
theorem neD_self {d : D} (h : okD d 8 = true) : neD d d = some (.bl false) := by unfold neD; rw [h, eqd_refl d 8 h]; rfl
theorem eqD_self {d : D} (h : okD d 8 = true) : eqD d d = some (.bl true) := by unfold eqD; rw [h, eqd_refl d 8 h]; rfl
theorem okD_L (xs : List Int) (n : Nat) : okD (L xs) (n + 1) = true := by simp only [okD]; exact okDs_ints xs n
theorem okD_TU (xs : List Int) (n : Nat) : okD (TU xs) (n + 1) = true := by simp only [okD]; exact okDs_ints xs n
theorem okDs_map {α : Type} {f : α → D} {n : Nat} (h : ∀ a, okD (f a) n = true) : ∀ xs : List α, okDs (xs.map f) n = true
  | [] => rfl
  | x :: xs => by simp only [List.map_cons, okDs, h, okDs_map h xs, Bool.and_self]
/-- a list against the empty one -/
theorem eqD_nil {ds : List D} (h : okD (.lst ds) 8 = true) : eqD (.lst ds) (.lst []) = some (.bl ds.isEmpty) := by
  unfold eqD
  rw [h]
  cases ds <;> simp [okD, okDs, eqd, eqds]
theorem neD_nil {ds : List D} (h : okD (.lst ds) 8 = true) : neD (.lst ds) (.lst []) = some (.bl (!ds.isEmpty)) := by
  unfold neD
  rw [h]
  cases ds <;> simp [okD, okDs, eqd, eqds]
theorem inL_ints (g : Int) : ∀ xs : List Int, inL (.int g) (xs.map D.int) = xs.contains g
  | [] => rfl
  | x :: xs => by
    have ih := inL_ints g xs
    unfold inL at ih ⊢
    rw [List.map_cons, List.any_cons, ih, eqd_int, List.contains_cons]
    congr 1
    by_cases h : x = g
    · rw [h]
    · rw [beq_false_of_ne h, beq_false_of_ne (fun z => h z.symm)]
theorem inD_L (g : Int) (xs : List Int) : inD (.int g) (L xs) = some (.bl (xs.contains g)) := by
  unfold inD items?
  simp only [okD, okDs_ints, Bool.and_self, if_true, inL_ints]
theorem notInD_L (g : Int) (xs : List Int) : notInD (.int g) (L xs) = some (.bl (!xs.contains g)) := by
  unfold notInD items?
  simp only [okD, okDs_ints, Bool.and_self, if_true, inL_ints]
/-- a comprehension of one clause whose elements change nothing -/
theorem lc1_ok {c : Nat} {it : EM (List D)} {tt : EM Bool} {te : EM D} {ρ : Fr} {ω : W3} {ds : List D} (g : D → Option D) (h : it ρ ω = .ok ds ρ ω) (hn : isOwn ρ[c]? = false) (hc : c < ρ.length) (hl : ds.length ≤ LIM)
    (he : ∀ d ∈ ds, (g d = none ∧ tt (ρ.set c (.val d)) ω = .ok false (ρ.set c (.val d)) ω) ∨ ∃ x, g d = some x ∧ tt (ρ.set c (.val d)) ω = .ok true (ρ.set c (.val d)) ω ∧ te (ρ.set c (.val d)) ω = .ok x (ρ.set c (.val d)) ω) :
    lcM [c] it (nmT c) tt te ρ ω = .ok (ds.filterMap g) ρ ω := by
  have ss : ∀ (x y : Slot), (ρ.set c x).set c y = ρ.set c y := fun x y => List.set_set ..
  have e := lcM_ok (vs := [c]) (tm := nmT c) (tt := tt) (te := te) (xs := ds.filterMap g) (ρ'' := wipeF [c] ρ) (ω'' := ω) h (by simp [noOwn, hn]) (by
    have := compL_map (vs := [c]) (t := nmT c) (tt := tt) (te := te) (ρ := wipeF [c] ρ) (ω := ω) g ds [] (fun d hd => by
      refine ⟨ρ.set c (.val d), ρ.set c (.val d), by simp only [nmT, wipeF, ss], ?_⟩
      have w : wipeF [c] (ρ.set c (.val d)) = wipeF [c] ρ := by simp only [wipeF, ss]
      rcases he d hd with ⟨h1, h2⟩ | ⟨x, h1, h2, h3⟩
      · exact .inl ⟨h1, h2, w⟩
      · exact .inr ⟨x, _, h1, h2, h3, w⟩) (by simpa using hl)
    simpa using this)
  rw [e]
  have : restF [c] ρ (wipeF [c] ρ) = ρ := by
    simp only [restF, wipeF, ss]
    rw [List.getD_eq_getElem?_getD, List.getElem?_eq_getElem hc]
    simp
  rw [this]
/-- the same without a test -/
theorem lc1_map {c : Nat} {it : EM (List D)} {te : EM D} {ρ : Fr} {ω : W3} {ds : List D} (g : D → D) (h : it ρ ω = .ok ds ρ ω) (hn : isOwn ρ[c]? = false) (hc : c < ρ.length) (hl : ds.length ≤ LIM)
    (he : ∀ d ∈ ds, te (ρ.set c (.val d)) ω = .ok (g d) (ρ.set c (.val d)) ω) : lcM [c] it (nmT c) yesT te ρ ω = .ok (ds.map g) ρ ω := by
  have := lc1_ok (tt := yesT) (te := te) (fun d => some (g d)) h hn hc hl (fun d hd => .inr ⟨g d, rfl, rfl, he d hd⟩)
  rw [this]
  congr 1
  exact List.filterMap_eq_map' ▸ rfl
/-- .. that keeps numbers by a test -/
theorem lc1_filter {c : Nat} {it : EM (List D)} {tt : EM Bool} {te : EM D} {ρ : Fr} {ω : W3} {is : List Int} (p : Int → Bool) (h : it ρ ω = .ok (is.map D.int) ρ ω) (hn : isOwn ρ[c]? = false) (hc : c < ρ.length) (hl : is.length ≤ LIM)
    (ht : ∀ i ∈ is, tt (ρ.set c (.val (.int i))) ω = .ok (p i) (ρ.set c (.val (.int i))) ω) (he : ∀ i ∈ is, te (ρ.set c (.val (.int i))) ω = .ok (.int i) (ρ.set c (.val (.int i))) ω) : lcM [c] it (nmT c) tt te ρ ω = .ok ((is.filter p).map D.int) ρ ω := by
  have := lc1_ok (tt := tt) (te := te) (fun d => match d with | .int i => if p i then some (.int i) else none | _ => none) h hn hc (by simpa using hl) (fun d hd => by
    obtain ⟨i, hi, rfl⟩ := List.mem_map.mp hd
    have t := ht i hi
    cases hp : p i with
    | true => rw [hp] at t; exact .inr ⟨.int i, by simp [hp], t, he i hi⟩
    | false => rw [hp] at t; exact .inl ⟨by simp [hp], t⟩)
  rw [this, filterMap_ints (p := p) (fun i => rfl)]
end L2.Fl

namespace L2.Fl.k06
open PySem PySem.Spec PyProof.Rows
def top (i : Nat) : Stmt := PySem.Challenge.pw_quarryline_k06_stations_in_sight.main.body.getD i (.Pass ⟨0, 0, 0, 0⟩)
section
variable {P : Program} {w : World} {K : PySem.W.Frag} {mg : Str → Option Value} {base : Heap} {G : G0}
abbrev st_seen_from : Stmt := top 4
theorem sc_seen_from : FnScope ["heights", "place", "clear", "found", "goal", "high", "k", "low"] ["heights", "place"] (defScope st_seen_from) := ⟨rfl, rfl, rfl, by decide +kernel, rfl, by decide +kernel, by decide +kernel⟩
def b_seen_from_1 : SM := ifS (asB (op2 geD (op2 mulD (op2 ixD (bw 0) (bw 6)) (op2 subD (bw 5) (bw 7))) (op2 addD (op2 mulD (op2 ixD (bw 0) (bw 7)) (op2 subD (bw 5) (bw 6))) (op2 mulD (op2 ixD (bw 0) (bw 5)) (op2 subD (bw 6) (bw 7)))))) (setS 2 (kk (.bl false))) (skipS)
def b_seen_from_2 : SM := seqS (parS 7 5 (consM (op2 min2D (bw 1) (bw 4)) (consM (op2 max2D (bw 1) (bw 4)) (nilM))))
 (seqS (setS 2 (kk (.bl true)))
 (seqS (forM (rng2M (op2 addD (bw 7) (kk (.int 1))) (bw 5)) (nmT 6)
 (b_seen_from_1))
 (ifS (asB (vr 2)) (appS 3 (vr 4)) (skipS))))
def b_seen_from : SM := seqS (ownS 3 (lstF (nilM)))
 (seqS (forM (rng1M (op1 lenD (bw 0))) (nmT 4)
 (b_seen_from_2))
 (rtS (op1 tupOf (bw 3))))
def fM_seen_from : FM := runM 8 b_seen_from
theorem ok_seen_from {f : Addr} {fd : FuncData} (F : Fun K "seen_from" "seen_from" st_seen_from f fd) (hb : Bn mg) (hG : ∀ pd, G.tk pd 0 = pd.map V.ref) : FnOk P w K mg base (L2.CX P w) 1 f fd ["heights", "place"] (spM G 2 fM_seen_from) :=
  mkFn F sc_seen_from rfl (by decide) fun cdv A outer sh H B hB hz hr => (
 s_cons (s_own (ps_set (i := 3) sc_seen_from.nd rfl (Or.inl rfl) (f_lst (a_nil))))
 (s_cons (s_for ownF rfl (w_rng1 (pi_range1 (by rfl) hb.range (pa_cons (m_b (eLen hb (m_bw (pv 0)))) pa_nil))) (g_nm (pg_name (i := 4) sc_seen_from.nd rfl (Or.inl rfl)))
 (s_cons (s_par (ps_par (i := 7) (j := 5) rfl sc_seen_from.nd rfl rfl (by decide) rfl rfl (a_cons (eMin2 rfl hb (m_bw (pv 1)) (m_bw (pv 4))) (a_cons (eMax2 rfl hb (m_bw (pv 1)) (m_bw (pv 4))) (a_nil))) (by rfl)))
 (s_cons (s_set (ps_set (i := 2) sc_seen_from.nd rfl (Or.inl rfl) (m_bl pe_bl)))
 (s_cons (s_for ownF rfl (w_rng2 (pi_range2 (by rfl) hb.range (pa_cons (m_b (eAdd (m_bw (pv 7)) (m_b (m_int pe_int)))) (pa_cons (m_bw (pv 5)) pa_nil)))) (g_nm (pg_name (i := 6) sc_seen_from.nd rfl (Or.inl rfl)))
 (s_one (s_if (tGe (m_b (eMul (m_b (eIx (m_bw (pv 0)) (m_bw (pv 6)))) (m_b (eSub (m_bw (pv 5)) (m_bw (pv 7)))))) (m_b (eAdd (m_b (eMul (m_b (eIx (m_bw (pv 0)) (m_bw (pv 7)))) (m_b (eSub (m_bw (pv 5)) (m_bw (pv 6)))))) (m_b (eMul (m_b (eIx (m_bw (pv 0)) (m_bw (pv 5)))) (m_b (eSub (m_bw (pv 6)) (m_bw (pv 7))))))))) (s_one (s_set (ps_set (i := 2) sc_seen_from.nd rfl (Or.inl rfl) (m_bl pe_bl)))) (s_nil))))
 (s_one (s_if (m_tval (m_vr (pv 2))) (s_one (sApp (pv 3) (m_vr (pv 4)))) (s_nil)))))))
 (s_one (s_ret (eTuple hb (m_bw (pv 3)))))))
abbrev st_turn : Stmt := top 6
theorem sc_turn : FnScope ["heights", "a", "b", "c"] ["heights", "a", "b", "c"] (defScope st_turn) := ⟨rfl, rfl, rfl, by decide +kernel, rfl, by decide +kernel, by decide +kernel⟩
def b_turn : SM := rtS (op2 subD (op2 mulD (op2 subD (bw 2) (bw 1)) (op2 subD (op2 ixD (bw 0) (bw 3)) (op2 ixD (bw 0) (bw 1)))) (op2 mulD (op2 subD (bw 3) (bw 1)) (op2 subD (op2 ixD (bw 0) (bw 2)) (op2 ixD (bw 0) (bw 1)))))
def fM_turn : FM := runM 4 b_turn
theorem ok_turn {f : Addr} {fd : FuncData} (F : Fun K "turn" "turn" st_turn f fd) (hb : Bn mg) (hG : ∀ pd, G.tk pd 0 = pd.map V.ref) : FnOk P w K mg base (L2.CX P w) 1 f fd ["heights", "a", "b", "c"] (spM G 4 fM_turn) :=
  mkFn F sc_turn rfl (by decide) fun cdv A outer sh H B hB hz hr => (
 s_one (s_ret (eSub (m_b (eMul (m_b (eSub (m_bw (pv 2)) (m_bw (pv 1)))) (m_b (eSub (m_b (eIx (m_bw (pv 0)) (m_bw (pv 3)))) (m_b (eIx (m_bw (pv 0)) (m_bw (pv 1)))))))) (m_b (eMul (m_b (eSub (m_bw (pv 3)) (m_bw (pv 1)))) (m_b (eSub (m_b (eIx (m_bw (pv 0)) (m_bw (pv 2)))) (m_b (eIx (m_bw (pv 0)) (m_bw (pv 1)))))))))))
abbrev st_hull : Stmt := top 5
theorem sc_hull : FnScope ["heights", "found", "k"] ["heights"] (defScope st_hull) := ⟨rfl, rfl, rfl, by decide +kernel, rfl, by decide +kernel, by decide +kernel⟩
def b_hull_1 : SM := popDropS 1
def b_hull_2 : SM := seqS (whileS (andT (asB (op2 gtD (op1 lenD (bw 1)) (kk (.int 1)))) (asB (op2 gtD (callM fM_turn 4 (consM (vr 0) (consM (op2 ixD (bw 1) (op1 negD (kk (.int 2)))) (consM (op2 ixD (bw 1) (op1 negD (kk (.int 1)))) (consM (vr 2) (nilM)))))) (kk (.int 0)))))
 (b_hull_1) 1000)
 (appS 1 (vr 2))
def b_hull : SM := seqS (ownS 1 (lstF (nilM)))
 (seqS (forM (rng1M (op1 lenD (bw 0))) (nmT 2)
 (b_hull_2))
 (rtS (op1 tupOf (bw 1))))
def fM_hull : FM := runM 3 b_hull
theorem ok_hull {f : Addr} {fd : FuncData} (F : Fun K "hull" "hull" st_hull f fd) (hb : Bn mg) (hG : ∀ pd, G.tk pd 0 = pd.map V.ref) (k_turn : Kn P w K mg base G "turn" 1 4 fM_turn) : FnOk P w K mg base (L2.CX P w) 2 f fd ["heights"] (spM G 1 fM_hull) :=
  mkFn F sc_hull rfl (by decide) fun cdv A outer sh H B hB hz hr => (
 s_cons (s_own (ps_set (i := 1) sc_hull.nd rfl (Or.inl rfl) (f_lst (a_nil))))
 (s_cons (s_for ownF rfl (w_rng1 (pi_range1 (by rfl) hb.range (pa_cons (m_b (eLen hb (m_bw (pv 0)))) pa_nil))) (g_nm (pg_name (i := 2) sc_hull.nd rfl (Or.inl rfl)))
 (s_cons (s_while 1000 ownF ((w_and (tGt (m_b (eLen hb (m_bw (pv 1)))) (m_b (m_int pe_int))) (w_and1 (tGt (m_b (m_call k_turn hB hr (by decide) (by rfl) passF (a_cons (m_vr (pv 0)) (a_cons (eIx (m_bw (pv 1)) (m_b (eNeg (m_b (m_int pe_int))))) (a_cons (eIx (m_bw (pv 1)) (m_b (eNeg (m_b (m_int pe_int))))) (a_cons (m_vr (pv 2)) (a_nil))))))) (m_b (m_int pe_int))))).pt)
 (s_one (sPopDrop (pv 1))))
 (s_one (sApp (pv 1) (m_vr (pv 2))))))
 (s_one (s_ret (eTuple hb (m_bw (pv 1)))))))
abbrev st_fewest_stations : Stmt := top 7
theorem sc_fewest_stations : FnScope ["heights", "good", "k", "many", "row", "rows", "seen", "sight", "place", "goal"] ["heights"] (defScope st_fewest_stations) := ⟨rfl, rfl, rfl, by decide +kernel, rfl, by decide +kernel, by decide +kernel⟩
def b_fewest_stations_1 : SM := setS 5 (op2 addD (bw 5) (frz (lcM [4] (itM (bw 5)) (nmT 4) (yesT) (op2 addD (bw 4) (tupM (consM (vr 2) (nilM)))))))
def b_fewest_stations_2 : SM := seqS (setS 6 (dc2M [8, 9] [9] (itM (vr 4)) (nmT 8) (itM (op2 ixD (bw 7) (bw 8))) (nmT 9) (vr 9) (kk (.bl true))))
 (ifS (asB (op2 eqD (op1 lenKD (bw 6)) (bw 3))) (appS 1 (tupM (consM (op1 lenD (bw 4)) (consM (vr 4) (nilM))))) (skipS))
def b_fewest_stations : SM := seqS (setS 3 (op1 lenD (bw 0)))
 (seqS (ifS (asB (op2 gtD (bw 3) (kk (.int 8)))) (raS 0) (skipS))
 (seqS (asgS (tupT (consT (nmT 5) (consT (nmT 7) (nilT)))) (tupM (consM (frz (lstF (consM (tupM (nilM)) (nilM)))) (consM (frz (lcM [8] (rng1M (bw 3)) (nmT 8) (yesT) (callM fM_seen_from 2 (consM (vr 0) (consM (vr 8) (nilM)))))) (nilM)))))
 (seqS (forM (rng1M (bw 3)) (nmT 2)
 (b_fewest_stations_1))
 (seqS (ownS 1 (lstF (nilM)))
 (seqS (forM (itM (vr 5)) (nmT 4)
 (b_fewest_stations_2))
 (rtS (op2 ixD (op1 minDD (bw 1)) (kk (.int 1)))))))))
def fM_fewest_stations : FM := runM 10 b_fewest_stations
theorem ok_fewest_stations {f : Addr} {fd : FuncData} (F : Fun K "fewest_stations" "fewest_stations" st_fewest_stations f fd) (hb : Bn mg) (hG : ∀ pd, G.tk pd 0 = pd.map V.ref) (k_seen_from : Kn P w K mg base G "seen_from" 1 2 fM_seen_from) (x_NoWay : OwnX K mg "NoWay" (G.cls 0)) : FnOk P w K mg base (L2.CX P w) 2 f fd ["heights"] (spM G 1 fM_fewest_stations) :=
  mkFn F sc_fewest_stations rfl (by decide) fun cdv A outer sh H B hB hz hr => (
 s_cons (s_set (ps_set (i := 3) sc_fewest_stations.nd rfl (Or.inl rfl) (eLen hb (m_bw (pv 0)))))
 (s_cons (s_if (tGt (m_bw (pv 3)) (m_b (m_int pe_int))) (s_one (sRaise (n := 0) rfl (by rw [hB.cls]; exact x_NoWay) takesF)) (s_nil))
 (s_cons (sAsgT (m_tup (a_cons (m_frz (f_lst (a_cons (m_tup (a_nil)) (a_nil)))) (a_cons (m_frz (f_lc rfl sc_fewest_stations.nd (i_b (w_rng1 (pi_range1 (by rfl) hb.range (pa_cons (m_bw (pv 3)) pa_nil)))) (blkOk_by (own := [("place", 8)]) (by kernel_rfl)) (by decide) (fun _ _ _ _ _ _ => g_nm (pg_name (i := 8) sc_fewest_stations.nd rfl (Or.inl rfl))) (fun _ _ _ _ _ _ => t_nil) (fun _ _ _ _ _ _ => m_call k_seen_from (hB.blk _) hr (by decide) (by rfl) passL (a_cons (m_vr (pv 0)) (a_cons (m_vr (pv 8)) (a_nil)))))) (a_nil)))) (g_tup rfl (gs_cons (g_nm (pg_name (i := 5) sc_fewest_stations.nd rfl (Or.inl rfl))) (gs_cons (g_nm (pg_name (i := 7) sc_fewest_stations.nd rfl (Or.inr rfl))) (gs_nil))) (len_cons (len_cons len_nil))))
 (s_cons (s_for ownF rfl (w_rng1 (pi_range1 (by rfl) hb.range (pa_cons (m_bw (pv 3)) pa_nil))) (g_nm (pg_name (i := 2) sc_fewest_stations.nd rfl (Or.inr rfl)))
 (s_one (s_set (ps_set (i := 5) sc_fewest_stations.nd rfl (Or.inl rfl) (eAdd (m_bw (pv 5)) (m_b (m_frz (f_lc rfl sc_fewest_stations.nd (w_seqB (m_bw (pv 5))) (blkOk_by (own := [("row", 4)]) (by kernel_rfl)) (by decide) (fun _ _ _ _ _ _ => g_nm (pg_name (i := 4) sc_fewest_stations.nd rfl (Or.inl rfl))) (fun _ _ _ _ _ _ => t_nil) (fun _ _ _ _ _ _ => eAdd (m_bw (pv 4)) (m_b (m_tup (a_cons (m_vr (pv 2)) (a_nil)))))))))))))
 (s_cons (s_own (ps_set (i := 1) sc_fewest_stations.nd rfl (Or.inl rfl) (f_lst (a_nil))))
 (s_cons (s_for ownF rfl (w_seq (m_vr (pv 5))) (g_nm (pg_name (i := 4) sc_fewest_stations.nd rfl (Or.inl rfl)))
 (s_cons (sSetDc2 (i := 6) (vs1 := [9]) rfl sc_fewest_stations.nd rfl rfl rfl (w_seq (m_vr (pv 4))) (blkOk_by (own := [("place", 8), ("goal", 9)]) (by kernel_rfl)) (by decide) (by decide) (by decide) (fun _ _ _ _ _ _ => g_nm (pg_name (i := 8) sc_fewest_stations.nd rfl (Or.inl rfl))) (fun _ _ _ _ _ _ => w_seq (eIx (m_bw (pv 7)) (m_bw (pv 8)))) (fun _ _ _ _ _ _ => g_nm (pg_name (i := 9) sc_fewest_stations.nd rfl (Or.inl rfl))) (fun _ _ _ _ _ _ => m_vr (pv 9)) (fun _ _ _ _ _ _ => m_bl pe_bl))
 (s_one (s_if (tEq hr (m_b (eLenK hb (m_bw (pv 6)))) (m_bw (pv 3))) (s_one (sApp (pv 1) (m_tup (a_cons (eLen hb (m_bw (pv 4))) (a_cons (m_vr (pv 4)) (a_nil)))))) (s_nil)))))
 (s_one (s_ret (eIx (m_b (eMinA rfl hr hb (m_bw (pv 1)))) (m_b (m_int pe_int)))))))))))
abbrev st_n_law_dice : Stmt := top 9
theorem sc_n_law_dice : FnScope ["cell"] ["cell"] (defScope st_n_law_dice) := ⟨rfl, rfl, rfl, by decide +kernel, rfl, by decide +kernel, by decide +kernel⟩
theorem ok_n_law_dice {f : Addr} {fd : FuncData} (F : Fun K "_law_dice" "_law_dice" st_n_law_dice f fd) (hb : Bn mg) (hG : ∀ pd, G.tk pd 0 = pd.map V.ref) : FnOk P w K mg base (L2.CX P w) 1 f fd ["cell"] (spM G 1 fM_n_law_dice) :=
  mkFn F sc_n_law_dice rfl (by decide) fun cdv A outer sh H B hB hz hr => (
 s_cons (s_if (tCh sim_lt sim_lt op_lt op_lt (m_b (eSub (m_b (m_int pe_int)) (m_b (m_int pe_int)))) (m_bw (pv 0)) (m_b (m_int pe_int))) (s_one (s_ret (m_frz (f_lst (a_cons (eAbs hb (m_bw (pv 0))) (a_cons (m_int pe_int) (a_cons (m_int pe_int) (a_nil)))))))) (s_nil))
 (s_one (s_ret (m_frz (f_lst (a_cons (m_vr (pv 0)) (a_cons (eAdd (m_b (m_int pe_int)) (m_b (eMod (m_b (eInt hb (m_bw (pv 0)))) (m_b (m_int pe_int))))) (a_cons (eInt hb (m_b (eGe (m_bw (pv 0)) (m_b (ePow (m_b (m_int pe_int)) (m_b (m_int pe_int))))))) (a_nil)))))))))
abbrev st_n_law_roll : Stmt := top 10
theorem sc_n_law_roll : FnScope ["dice", "many", "found"] ["dice", "many"] (defScope st_n_law_roll) := ⟨rfl, rfl, rfl, by decide +kernel, rfl, by decide +kernel, by decide +kernel⟩
theorem ok_n_law_roll {f : Addr} {fd : FuncData} (F : Fun K "_law_roll" "_law_roll" st_n_law_roll f fd) (hb : Bn mg) (hG : ∀ pd, G.tk pd 0 = pd.map V.ref) : FnOk P w K mg base (L2.CX P w) 1 f fd ["dice", "many"] (spM G 2 fM_n_law_roll) :=
  mkFn F sc_n_law_roll rfl (by decide) fun cdv A outer sh H B hB hz hr => (
 s_cons (s_if ((w_or (tEq hr (m_b (m_dice (hB.tok hG) (pv 0) pe_int)) (m_b (m_int pe_int))) (w_or1 ((w_and (tEq hr (m_b (m_dice (hB.tok hG) (pv 0) pe_int)) (m_b (m_int pe_int))) (w_and1 (tGt (m_b (m_dice (hB.tok hG) (pv 0) pe_int)) (m_b (m_int pe_int))))).pt))).pt) (s_cons (s_set (ps_set (i := 2) sc_n_law_roll.nd rfl (Or.inl rfl) (eMod (m_b (eInt hb (m_b (m_dice (hB.tok hG) (pv 0) pe_int)))) (m_bw (pv 1)))))
 (s_cons (s_dice (hB.tok hG) (ps_asg (eDiv (m_b (m_dice (hB.tok hG) (pv 0) pe_int)) (m_bw (pv 1))) (pg_sub (pv 0) pe_int set_list)))
 (s_one (s_ret (m_vr (pv 2)))))) (s_nil))
 (s_cons (s_dice (hB.tok hG) (ps_asg (m_int pe_int) (pg_sub (pv 0) pe_int set_list)))
 (s_cons (s_dice (hB.tok hG) (ps_asg (eMod (m_b (eInt hb (m_b (eAdd (m_b (eAdd (m_b (eMul (m_b (m_dice (hB.tok hG) (pv 0) pe_int)) (m_b (m_int pe_int)))) (m_b (eMul (m_b (m_dice (hB.tok hG) (pv 0) pe_int)) (m_b (m_int pe_int)))))) (m_b (m_int pe_int)))))) (m_b (m_int pe_int))) (pg_sub (pv 0) pe_int set_list)))
 (s_cons (s_dice (hB.tok hG) (ps_asg (eAdd (m_b (m_dice (hB.tok hG) (pv 0) pe_int)) (m_b (m_int pe_int))) (pg_sub (pv 0) pe_int set_list)))
 (s_one (s_ret (eMod (m_b (eInt hb (m_b (eAdd (m_b (eDiv (m_b (m_dice (hB.tok hG) (pv 0) pe_int)) (m_b (m_int pe_int)))) (m_b (m_dice (hB.tok hG) (pv 0) pe_int)))))) (m_bw (pv 1)))))))))
abbrev st_n_law_rounds : Stmt := top 11
theorem sc_n_law_rounds : FnScope ["script", "most", "cells", "cell"] ["script", "most"] (defScope st_n_law_rounds) := ⟨rfl, rfl, rfl, by decide +kernel, rfl, by decide +kernel, by decide +kernel⟩
theorem ok_n_law_rounds {f : Addr} {fd : FuncData} (F : Fun K "_law_rounds" "_law_rounds" st_n_law_rounds f fd) (hb : Bn mg) (hG : ∀ pd, G.tk pd 0 = pd.map V.ref) (k_n_law_dice : Kn P w K mg base G "_law_dice" 1 1 fM_n_law_dice) : FnOk P w K mg base (L2.CX P w) 2 f fd ["script", "most"] (spRounds K G.T) :=
  rounds_ok F sc_n_law_rounds rfl rfl fun cdv A outer sh H B hB hz hr => (pss_cons (ps_set (i := 2) sc_n_law_rounds.nd rfl (Or.inl rfl) (pe_slice sl_list (pv 0) po_none (po_some (pv 1))))
 (s_cons (s_if (tEq hr (m_bw (pv 2)) (m_b (m_frz (f_lst (a_nil))))) (s_one (s_set (ps_set (i := 2) sc_n_law_rounds.nd rfl (Or.inl rfl) (m_frz (f_lst (a_cons (m_int pe_int) (a_nil))))))) (s_nil))
 (s_one (s_ret (m_frz (f_lc rfl sc_n_law_rounds.nd (w_seqB (m_bw (pv 2))) (blkOk_by (own := [("cell", 3)]) (by kernel_rfl)) (by decide) (fun _ _ _ _ _ _ => g_nm (pg_name (i := 3) sc_n_law_rounds.nd rfl (Or.inl rfl))) (fun _ _ _ _ _ _ => t_nil) (fun _ _ _ _ _ _ => m_call k_n_law_dice (hB.blk _) hr (by decide) (by rfl) passL (a_cons (m_vr (pv 3)) (a_nil)))))))))
abbrev st_n_law_sees : Stmt := top 12
theorem sc_n_law_sees : FnScope ["heights", "one", "two", "high", "k", "low"] ["heights", "one", "two"] (defScope st_n_law_sees) := ⟨rfl, rfl, rfl, by decide +kernel, rfl, by decide +kernel, by decide +kernel⟩
def b_n_law_sees_1 : SM := ifS (asB (op2 geD (op2 mulD (op2 ixD (bw 0) (bw 4)) (op2 subD (bw 3) (bw 5))) (op2 addD (op2 mulD (op2 ixD (bw 0) (bw 5)) (op2 subD (bw 3) (bw 5))) (op2 mulD (op2 subD (op2 ixD (bw 0) (bw 3)) (op2 ixD (bw 0) (bw 5))) (op2 subD (bw 4) (bw 5)))))) (rtS (kk (.bl false))) (skipS)
def b_n_law_sees : SM := seqS (parS 5 3 (consM (op2 min2D (bw 1) (bw 2)) (consM (op2 max2D (bw 1) (bw 2)) (nilM))))
 (seqS (forM (rng2M (op2 addD (bw 5) (kk (.int 1))) (bw 3)) (nmT 4)
 (b_n_law_sees_1))
 (rtS (kk (.bl true))))
def fM_n_law_sees : FM := runM 6 b_n_law_sees
theorem ok_n_law_sees {f : Addr} {fd : FuncData} (F : Fun K "_law_sees" "_law_sees" st_n_law_sees f fd) (hb : Bn mg) (hG : ∀ pd, G.tk pd 0 = pd.map V.ref) : FnOk P w K mg base (L2.CX P w) 1 f fd ["heights", "one", "two"] (spM G 3 fM_n_law_sees) :=
  mkFn F sc_n_law_sees rfl (by decide) fun cdv A outer sh H B hB hz hr => (
 s_cons (s_par (ps_par (i := 5) (j := 3) rfl sc_n_law_sees.nd rfl rfl (by decide) rfl rfl (a_cons (eMin2 rfl hb (m_bw (pv 1)) (m_bw (pv 2))) (a_cons (eMax2 rfl hb (m_bw (pv 1)) (m_bw (pv 2))) (a_nil))) (by rfl)))
 (s_cons (s_for ownF rfl (w_rng2 (pi_range2 (by rfl) hb.range (pa_cons (m_b (eAdd (m_bw (pv 5)) (m_b (m_int pe_int)))) (pa_cons (m_bw (pv 3)) pa_nil)))) (g_nm (pg_name (i := 4) sc_n_law_sees.nd rfl (Or.inl rfl)))
 (s_one (s_if (tGe (m_b (eMul (m_b (eIx (m_bw (pv 0)) (m_bw (pv 4)))) (m_b (eSub (m_bw (pv 3)) (m_bw (pv 5)))))) (m_b (eAdd (m_b (eMul (m_b (eIx (m_bw (pv 0)) (m_bw (pv 5)))) (m_b (eSub (m_bw (pv 3)) (m_bw (pv 5)))))) (m_b (eMul (m_b (eSub (m_b (eIx (m_bw (pv 0)) (m_bw (pv 3)))) (m_b (eIx (m_bw (pv 0)) (m_bw (pv 5)))))) (m_b (eSub (m_bw (pv 4)) (m_bw (pv 5))))))))) (s_one (s_ret (m_bl pe_bl))) (s_nil))))
 (s_one (s_ret (m_bl pe_bl)))))
abbrev st_law : Stmt := top 13
theorem sc_law : FnScope ["script", "a", "b", "dice", "good", "heights", "k", "line", "many", "row", "rows", "sets", "one", "two", "j", "goal"] ["script"] (defScope st_law) := ⟨rfl, rfl, rfl, by decide +kernel, rfl, by decide +kernel, by decide +kernel⟩
def b_law_1 : SM := seqS (asgS (tupT (consT (nmT 1) (consT (nmT 2) (nilT)))) (tupM (consM (op2 ixD (bw 7) (op2 subD (bw 6) (kk (.int 1)))) (consM (op2 ixD (bw 7) (bw 6)) (nilM)))))
 (ifS (asB (op2 neD (frz (lcM [14] (rng1M (bw 8)) (nmT 14) (asB (op2 gtD (op2 mulD (op2 ixD (bw 5) (bw 14)) (op2 subD (bw 2) (bw 1))) (op2 addD (op2 mulD (op2 ixD (bw 5) (bw 1)) (op2 subD (bw 2) (bw 1))) (op2 mulD (op2 subD (op2 ixD (bw 5) (bw 2)) (op2 ixD (bw 5) (bw 1))) (op2 subD (bw 14) (bw 1)))))) (vr 14))) (frz (lstF (nilM))))) (rtS (kk (.bl false))) (skipS))
def b_law_2 : SM := setS 11 (op2 addD (bw 11) (frz (lcM [9] (itM (bw 11)) (nmT 9) (yesT) (op2 addD (bw 9) (tupM (consM (vr 6) (nilM)))))))
def b_law_3 : SM := ifS (asB (op2 eqD (frz (lcM [15] (rng1M (bw 8)) (nmT 15) (asB (op2 eqD (frz (lcM [12] (itM (bw 9)) (nmT 12) (asB (op2 inD (bw 15) (op2 ixD (bw 10) (bw 12)))) (vr 12))) (frz (lstF (nilM))))) (vr 15))) (frz (lstF (nilM))))) (appS 4 (tupM (consM (op1 lenD (bw 9)) (consM (vr 9) (nilM))))) (skipS)
def b_lawturn : SM := seqS (setS 5 (frz (lcM [6] (rng1M (op2 addD (kk (.int 1)) (callM fM_n_law_roll 2 (consM (vr 3) (consM (kk (.int 7)) (nilM)))))) (nmT 6) (yesT) (callM fM_n_law_roll 2 (consM (vr 3) (consM (kk (.int 7)) (nilM)))))))
 (seqS (setS 8 (op1 lenD (bw 5)))
 (seqS (setS 10 (frz (lcM [12] (rng1M (bw 8)) (nmT 12) (yesT) (frz (lcM [13] (rng1M (bw 8)) (nmT 13) (asB (callM fM_n_law_sees 3 (consM (vr 5) (consM (vr 12) (consM (vr 13) (nilM)))))) (vr 13))))))
 (seqS (ifS (asB (op2 neD (frz (lcM [12] (rng1M (bw 8)) (nmT 12) (yesT) (frz (opF1 items? (callM fM_seen_from 2 (consM (vr 5) (consM (vr 12) (nilM)))))))) (bw 10))) (rtS (kk (.bl false))) (skipS))
 (seqS (setS 7 (callM fM_hull 1 (consM (vr 5) (nilM))))
 (seqS (ifS (orT (asB (op2 neD (op2 ixD (bw 7) (kk (.int 0))) (kk (.int 0)))) (asB (op2 neD (op2 ixD (bw 7) (op1 negD (kk (.int 1)))) (op2 subD (bw 8) (kk (.int 1)))))) (rtS (kk (.bl false))) (skipS))
 (seqS (ifS (asB (op2 neD (frz (lcM [6] (rng2M (kk (.int 1)) (op1 lenD (bw 7))) (nmT 6) (asB (op2 notInD (op2 ixD (bw 7) (bw 6)) (op2 ixD (bw 10) (op2 ixD (bw 7) (op2 subD (bw 6) (kk (.int 1))))))) (vr 6))) (frz (lstF (nilM))))) (rtS (kk (.bl false))) (skipS))
 (seqS (forM (rng2M (kk (.int 1)) (op1 lenD (bw 7))) (nmT 6)
 (b_law_1))
 (seqS (setS 11 (frz (lstF (consM (tupM (nilM)) (nilM)))))
 (seqS (forM (rng1M (bw 8)) (nmT 6)
 (b_law_2))
 (seqS (ownS 4 (lstF (nilM)))
 (seqS (forM (itM (vr 11)) (nmT 9)
 (b_law_3))
 (ifS (asB (op2 neD (callM fM_fewest_stations 1 (consM (vr 5) (nilM))) (op2 ixD (op1 minDD (bw 4)) (kk (.int 1))))) (rtS (kk (.bl false))) (skipS)))))))))))))
theorem ok_law {f : Addr} {fd : FuncData} (F : Fun K "law" "law" st_law f fd) (hb : Bn mg) (hG : ∀ pd, G.tk pd 0 = pd.map V.ref) (kr : KnR P w K mg base G "_law_rounds" 2) (k_n_law_roll : Kn P w K mg base G "_law_roll" 1 2 fM_n_law_roll) (k_n_law_sees : Kn P w K mg base G "_law_sees" 1 3 fM_n_law_sees) (k_seen_from : Kn P w K mg base G "seen_from" 1 2 fM_seen_from) (k_hull : Kn P w K mg base G "hull" 2 1 fM_hull) (k_fewest_stations : Kn P w K mg base G "fewest_stations" 2 1 fM_fewest_stations) (ok : TurnOk 16 3 b_lawturn) : FnOk P w K mg base (L2.CX P w) 3 f fd ["script"] (spLaw K G.T) :=
  law_ok F sc_law rfl (by decide) (by decide) hG (fun cdv A outer sh H E hr => pss_cons (ps_for ownF rfl (pi_list (m_rounds kr hr (by decide) (by rfl) passF (pa_cons (pv 0) (pa_cons pe_int pa_nil)))) (pg_name (i := 3) sc_law.nd rfl (Or.inr rfl)) (x_s fun B hB hz => (
 s_cons (s_set (ps_set (i := 5) sc_law.nd rfl (Or.inr rfl) (m_frz (f_lc rfl sc_law.nd (i_b (w_rng1 (pi_range1 (by rfl) hb.range (pa_cons (m_b (eAdd (m_b (m_int pe_int)) (m_b (m_call k_n_law_roll hB hr (by decide) (by rfl) passF (a_cons (m_vr (pv 3)) (a_cons (m_int pe_int) (a_nil))))))) pa_nil)))) (blkOk_by (own := [("k", 6)]) (by kernel_rfl)) (by decide) (fun _ _ _ _ _ _ => g_nm (pg_name (i := 6) sc_law.nd rfl (Or.inl rfl))) (fun _ _ _ _ _ _ => t_nil) (fun _ _ _ _ _ _ => m_call k_n_law_roll (hB.blk _) hr (by decide) (by rfl) passL (a_cons (m_vr (pv 3)) (a_cons (m_int pe_int) (a_nil))))))))
 (s_cons (s_set (ps_set (i := 8) sc_law.nd rfl (Or.inr rfl) (eLen hb (m_bw (pv 5)))))
 (s_cons (s_set (ps_set (i := 10) sc_law.nd rfl (Or.inr rfl) (m_frz (f_lc rfl sc_law.nd (i_b (w_rng1 (pi_range1 (by rfl) hb.range (pa_cons (m_bw (pv 8)) pa_nil)))) (blkOk_by (own := [("one", 12)]) (by kernel_rfl)) (by decide) (fun _ _ _ _ _ _ => g_nm (pg_name (i := 12) sc_law.nd rfl (Or.inr rfl))) (fun _ _ _ _ _ _ => t_nil) (fun _ _ _ _ _ _ => m_frz (f_lc rfl sc_law.nd (i_b (w_rng1 (pi_range1 (by rfl) hb.range (pa_cons (m_bw (pv 8)) pa_nil)))) (blkOk_by (own := [("two", 13)]) (by kernel_rfl)) (by decide) (fun _ _ _ _ _ _ => g_nm (pg_name (i := 13) sc_law.nd rfl (Or.inl rfl))) (fun _ _ _ _ _ _ => t_one (m_tval (m_call k_n_law_sees ((hB.blk _).blk _) hr (by decide) (by rfl) passL (a_cons (m_vr (pv 5)) (a_cons (m_vr (pv 12)) (a_cons (m_vr (pv 13)) (a_nil))))))) (fun _ _ _ _ _ _ => m_vr (pv 13))))))))
 (s_cons (s_if (tNe hr (m_b (m_frz (f_lc rfl sc_law.nd (i_b (w_rng1 (pi_range1 (by rfl) hb.range (pa_cons (m_bw (pv 8)) pa_nil)))) (blkOk_by (own := [("one", 12)]) (by kernel_rfl)) (by decide) (fun _ _ _ _ _ _ => g_nm (pg_name (i := 12) sc_law.nd rfl (Or.inl rfl))) (fun _ _ _ _ _ _ => t_nil) (fun _ _ _ _ _ _ => m_frz (fList hb (m_b (m_call k_seen_from (hB.blk _) hr (by decide) (by rfl) passL (a_cons (m_vr (pv 5)) (a_cons (m_vr (pv 12)) (a_nil)))))))))) (m_bw (pv 10))) (s_one (s_ret (m_bl pe_bl))) (s_nil))
 (s_cons (s_set (ps_set (i := 7) sc_law.nd rfl (Or.inr rfl) (m_call k_hull hB hr (by decide) (by rfl) passF (a_cons (m_vr (pv 5)) (a_nil)))))
 (s_cons (s_if ((w_or (tNe hr (m_b (eIx (m_bw (pv 7)) (m_b (m_int pe_int)))) (m_b (m_int pe_int))) (w_or1 (tNe hr (m_b (eIx (m_bw (pv 7)) (m_b (eNeg (m_b (m_int pe_int)))))) (m_b (eSub (m_bw (pv 8)) (m_b (m_int pe_int))))))).pt) (s_one (s_ret (m_bl pe_bl))) (s_nil))
 (s_cons (s_if (tNe hr (m_b (m_frz (f_lc rfl sc_law.nd (i_b (w_rng2 (pi_range2 (by rfl) hb.range (pa_cons (m_b (m_int pe_int)) (pa_cons (m_b (eLen hb (m_bw (pv 7)))) pa_nil))))) (blkOk_by (own := [("k", 6)]) (by kernel_rfl)) (by decide) (fun _ _ _ _ _ _ => g_nm (pg_name (i := 6) sc_law.nd rfl (Or.inl rfl))) (fun _ _ _ _ _ _ => t_one (tNotIn hr (m_b (eIx (m_bw (pv 7)) (m_bw (pv 6)))) (m_b (eIx (m_bw (pv 10)) (m_b (eIx (m_bw (pv 7)) (m_b (eSub (m_bw (pv 6)) (m_b (m_int pe_int)))))))))) (fun _ _ _ _ _ _ => m_vr (pv 6))))) (m_b (m_frz (f_lst (a_nil))))) (s_one (s_ret (m_bl pe_bl))) (s_nil))
 (s_cons (s_for ownF rfl (w_rng2 (pi_range2 (by rfl) hb.range (pa_cons (m_b (m_int pe_int)) (pa_cons (m_b (eLen hb (m_bw (pv 7)))) pa_nil)))) (g_nm (pg_name (i := 6) sc_law.nd rfl (Or.inr rfl)))
 (s_cons (sAsgT (m_tup (a_cons (eIx (m_bw (pv 7)) (m_b (eSub (m_bw (pv 6)) (m_b (m_int pe_int))))) (a_cons (eIx (m_bw (pv 7)) (m_bw (pv 6))) (a_nil)))) (g_tup rfl (gs_cons (g_nm (pg_name (i := 1) sc_law.nd rfl (Or.inr rfl))) (gs_cons (g_nm (pg_name (i := 2) sc_law.nd rfl (Or.inr rfl))) (gs_nil))) (len_cons (len_cons len_nil))))
 (s_one (s_if (tNe hr (m_b (m_frz (f_lc rfl sc_law.nd (i_b (w_rng1 (pi_range1 (by rfl) hb.range (pa_cons (m_bw (pv 8)) pa_nil)))) (blkOk_by (own := [("j", 14)]) (by kernel_rfl)) (by decide) (fun _ _ _ _ _ _ => g_nm (pg_name (i := 14) sc_law.nd rfl (Or.inl rfl))) (fun _ _ _ _ _ _ => t_one (tGt (m_b (eMul (m_b (eIx (m_bw (pv 5)) (m_bw (pv 14)))) (m_b (eSub (m_bw (pv 2)) (m_bw (pv 1)))))) (m_b (eAdd (m_b (eMul (m_b (eIx (m_bw (pv 5)) (m_bw (pv 1)))) (m_b (eSub (m_bw (pv 2)) (m_bw (pv 1)))))) (m_b (eMul (m_b (eSub (m_b (eIx (m_bw (pv 5)) (m_bw (pv 2)))) (m_b (eIx (m_bw (pv 5)) (m_bw (pv 1)))))) (m_b (eSub (m_bw (pv 14)) (m_bw (pv 1)))))))))) (fun _ _ _ _ _ _ => m_vr (pv 14))))) (m_b (m_frz (f_lst (a_nil))))) (s_one (s_ret (m_bl pe_bl))) (s_nil)))))
 (s_cons (s_set (ps_set (i := 11) sc_law.nd rfl (Or.inl rfl) (m_frz (f_lst (a_cons (m_tup (a_nil)) (a_nil))))))
 (s_cons (s_for ownF rfl (w_rng1 (pi_range1 (by rfl) hb.range (pa_cons (m_bw (pv 8)) pa_nil))) (g_nm (pg_name (i := 6) sc_law.nd rfl (Or.inr rfl)))
 (s_one (s_set (ps_set (i := 11) sc_law.nd rfl (Or.inl rfl) (eAdd (m_bw (pv 11)) (m_b (m_frz (f_lc rfl sc_law.nd (w_seqB (m_bw (pv 11))) (blkOk_by (own := [("row", 9)]) (by kernel_rfl)) (by decide) (fun _ _ _ _ _ _ => g_nm (pg_name (i := 9) sc_law.nd rfl (Or.inl rfl))) (fun _ _ _ _ _ _ => t_nil) (fun _ _ _ _ _ _ => eAdd (m_bw (pv 9)) (m_b (m_tup (a_cons (m_vr (pv 6)) (a_nil)))))))))))))
 (s_cons (s_own (ps_set (i := 4) sc_law.nd rfl (Or.inl rfl) (f_lst (a_nil))))
 (s_cons (s_for ownF rfl (w_seq (m_vr (pv 11))) (g_nm (pg_name (i := 9) sc_law.nd rfl (Or.inr rfl)))
 (s_one (s_if (tEq hr (m_b (m_frz (f_lc rfl sc_law.nd (i_b (w_rng1 (pi_range1 (by rfl) hb.range (pa_cons (m_bw (pv 8)) pa_nil)))) (blkOk_by (own := [("goal", 15)]) (by kernel_rfl)) (by decide) (fun _ _ _ _ _ _ => g_nm (pg_name (i := 15) sc_law.nd rfl (Or.inr rfl))) (fun _ _ _ _ _ _ => t_one (tEq hr (m_b (m_frz (f_lc rfl sc_law.nd (w_seqB (m_bw (pv 9))) (blkOk_by (own := [("one", 12)]) (by kernel_rfl)) (by decide) (fun _ _ _ _ _ _ => g_nm (pg_name (i := 12) sc_law.nd rfl (Or.inl rfl))) (fun _ _ _ _ _ _ => t_one (tIn hr (m_bw (pv 15)) (m_b (eIx (m_bw (pv 10)) (m_bw (pv 12)))))) (fun _ _ _ _ _ _ => m_vr (pv 12))))) (m_b (m_frz (f_lst (a_nil)))))) (fun _ _ _ _ _ _ => m_vr (pv 15))))) (m_b (m_frz (f_lst (a_nil))))) (s_one (sApp (pv 4) (m_tup (a_cons (eLen hb (m_bw (pv 9))) (a_cons (m_vr (pv 9)) (a_nil)))))) (s_nil))))
 (s_one (s_if (tNe hr (m_b (m_call k_fewest_stations hB hr (by decide) (by rfl) passF (a_cons (m_vr (pv 5)) (a_nil)))) (m_b (eIx (m_b (eMinA rfl hr hb (m_bw (pv 4)))) (m_b (m_int pe_int))))) (s_one (s_ret (m_bl pe_bl))) (s_nil))))))))))))))))) (pss_one (ps_ret pe_bl))) ok
end
/-! the plain law's words -/
/-- k stands in the way of a line from lo to hi -/
def inWay (h : Int → Int) (lo hi k : Int) : Bool := decide (h lo * (hi - lo) + (h hi - h lo) * (k - lo) ≤ h k * (hi - lo))
def seesB (h : Int → Int) (a b : Int) : Bool := (rangeI ((if b < a then b else a) + 1) ((if b > a then b else a) - ((if b < a then b else a) + 1)).toNat).all fun k => !inWay h (if b < a then b else a) (if b > a then b else a) k
theorem way_eq (h : Int → Int) (lo hi k : Int) : decide (h lo * (hi - k) + h hi * (k - lo) ≤ h k * (hi - lo)) = inWay h lo hi k := by
  unfold inWay
  have e : h lo * (hi - lo) + (h hi - h lo) * (k - lo) = h lo * (hi - k) + h hi * (k - lo) := by grind
  rw [e]
structure Okh (hs : List Int) : Prop where
  pos : 0 < hs.length
  len : hs.length ≤ 7
  val : ∀ x ∈ hs, 0 ≤ x ∧ x < 7
theorem at_val {hs : List Int} (o : Okh hs) {k : Int} (h0 : 0 ≤ k) (h1 : k < hs.length) : 0 ≤ at' hs k ∧ at' hs k < 7 := by
  have hk : k.toNat < hs.length := by omega
  have : at' hs k = hs[k.toNat] := by simp [at', hk]
  rw [this]
  exact o.val _ (List.getElem_mem hk)
theorem step1 {hs : List Int} (o : Okh hs) (lo hi k : Int) (h0 : 0 ≤ lo) (h1 : hi < hs.length) (k1 : lo < k) (k2 : k < hi) (s1 s3 s4 : Slot) (c : Bool) (ω : W3) :
    b_seen_from_1 [.val (L hs), s1, .val (.bl c), s3, s4, .val (.int hi), .val (.int k), .val (.int lo)] ω = .nx [.val (L hs), s1, .val (.bl (c && !inWay (at' hs) lo hi k)), s3, s4, .val (.int hi), .val (.int k), .val (.int lo)] ω := by
  have hl7 := o.len
  have m1 : cMul (at' hs k) (hi - lo) = true := cMul_small (by omega) (by omega)
  have m2 : cMul (at' hs lo) (hi - k) = true := cMul_small (by omega) (by omega)
  have m3 : cMul (at' hs hi) (k - lo) = true := cMul_small (by omega) (by omega)
  have e1 := ixD_L (xs := hs) (k := k) (by omega) (by omega)
  have e2 := ixD_L (xs := hs) (k := lo) (by omega) (by omega)
  have e3 := ixD_L (xs := hs) (k := hi) (by omega) (by omega)
  have w := way_eq (at' hs) lo hi k
  unfold b_seen_from_1
  simp only [ifS, asB, op2, bw, List.getElem?_cons_succ, List.getElem?_cons_zero, Out.andThen, optM, e1, e2, e3, subD_i, mulD_i m1, mulD_i m2, mulD_i m3, addD_i, geD_i, Out.stm, w]
  cases inWay (at' hs) lo hi k with
  | true => simp [setS, kk, Out.stm]
  | false => simp [skipS]
theorem inner_eval {hs : List Int} (o : Okh hs) (lo hi : Int) (h0 : 0 ≤ lo) (h1 : hi < hs.length) (s1 s3 s4 : Slot) : ∀ (ks : List Int) (c : Bool) (s6 : Slot) (ω : W3), (∀ k ∈ ks, lo < k ∧ k < hi) → ∃ s6',
    forS (nmT 6) b_seen_from_1 (ks.map D.int) [.val (L hs), s1, .val (.bl c), s3, s4, .val (.int hi), s6, .val (.int lo)] ω = .nx [.val (L hs), s1, .val (.bl (c && ks.all fun k => !inWay (at' hs) lo hi k)), s3, s4, .val (.int hi), s6', .val (.int lo)] ω
  | [], c, s6, ω, _ => ⟨s6, by simp [forS]⟩
  | k :: ks, c, s6, ω, hk => by
    obtain ⟨k1, k2⟩ := hk k List.mem_cons_self
    obtain ⟨s6', ih⟩ := inner_eval o lo hi h0 h1 s1 s3 s4 ks (c && !inWay (at' hs) lo hi k) (.val (.int k)) ω fun k' h' => hk k' (List.mem_cons_of_mem _ h')
    refine ⟨s6', ?_⟩
    rw [List.map_cons]
    unfold forS
    simp only [nmT, List.set, step1 o lo hi k h0 h1 k1 k2, ih, List.all_cons, Bool.and_assoc]
def seenL (hs : List Int) (p : Int) : List Int := (rangeI 0 hs.length).filter fun g => seesB (at' hs) p g
theorem step2 {hs : List Int} (o : Okh hs) {p g : Int} (h0 : 0 ≤ p) (h1 : p < hs.length) (g0 : 0 ≤ g) (g1 : g < hs.length) (acc : List Int) (ha : acc.length ≤ 100) (s2 s5 s6 s7 : Slot) (ω : W3) : ∃ s2' s5' s6' s7',
    b_seen_from_2 [.val (L hs), .val (.int p), s2, .own (L acc), .val (.int g), s5, s6, s7] ω = .nx [.val (L hs), .val (.int p), s2', .own (L (acc ++ if seesB (at' hs) p g then [g] else [])), .val (.int g), s5', s6', s7'] ω := by
  have hn : (hs.length : Int) < 8 := by have := o.len; omega
  have hlo0 : 0 ≤ (if g < p then g else p) := by split <;> omega
  have hhi1 : (if g > p then g else p) < hs.length := by split <;> omega
  have hlo1 : (if g < p then g else p) < hs.length := by split <;> omega
  have hhi0 : 0 ≤ (if g > p then g else p) := by split <;> omega
  have r1 : rgOk ((if g < p then g else p) + 1) = true := rgOk_small (by omega) (by omega)
  have r2 : rgOk (if g > p then g else p) = true := rgOk_small (by omega) (by omega)
  obtain ⟨s6', e⟩ := inner_eval o (if g < p then g else p) (if g > p then g else p) hlo0 hhi1 (.val (.int p)) (.own (L acc)) (.val (.int g)) (rangeI ((if g < p then g else p) + 1) ((if g > p then g else p) - ((if g < p then g else p) + 1)).toNat) true s6 ω (fun k hk => by rw [mem_rangeI] at hk; omega)
  have hll : acc.length < LIM := by unfold LIM; omega
  refine ⟨.val (.bl (seesB (at' hs) p g)), .val (.int (if g > p then g else p)), s6', .val (.int (if g < p then g else p)), ?_⟩
  unfold b_seen_from_2
  simp only [List.set, seqS, parS, consM, nilM, op2, bw, List.getElem?_cons_succ, List.getElem?_cons_zero, Out.andThen, optM, min2D_i, max2D_i, Out.stm, SO.andThen, setS, kk, forM, rng2M, addD_i, r1, r2, Bool.and_self, if_true, rangeL_I, e, Bool.true_and]
  have es : (rangeI ((if g < p then g else p) + 1) ((if g > p then g else p) - ((if g < p then g else p) + 1)).toNat).all (fun k => !inWay (at' hs) (if g < p then g else p) (if g > p then g else p) k) = seesB (at' hs) p g := rfl
  rw [es]
  cases hb : seesB (at' hs) p g with
  | true => simp [ifS, asB, vr, Out.andThen, Out.stm, appS, hll]
  | false => simp [ifS, asB, vr, Out.andThen, Out.stm, skipS]
theorem seen_loop {hs : List Int} (o : Okh hs) {p : Int} (h0 : 0 ≤ p) (h1 : p < hs.length) (ω : W3) : ∀ (gs acc : List Int) (s2 s4 s5 s6 s7 : Slot), (∀ g ∈ gs, 0 ≤ g ∧ g < hs.length) → acc.length + gs.length ≤ 100 → ∃ s2' s4' s5' s6' s7',
      forS (nmT 4) b_seen_from_2 (gs.map D.int) [.val (L hs), .val (.int p), s2, .own (L acc), s4, s5, s6, s7] ω = .nx [.val (L hs), .val (.int p), s2', .own (L (acc ++ gs.filter fun g => seesB (at' hs) p g)), s4', s5', s6', s7'] ω
  | [], acc, s2, s4, s5, s6, s7, _, _ => ⟨s2, s4, s5, s6, s7, by simp [forS]⟩
  | g :: gs, acc, s2, s4, s5, s6, s7, hg, hl => by
      obtain ⟨g0, g1⟩ := hg g List.mem_cons_self
      have hl' : acc.length + gs.length + 1 ≤ 100 := by simpa [Nat.add_assoc] using hl
      obtain ⟨t2, t5, t6, t7, e⟩ := step2 o h0 h1 g0 g1 acc (by omega) s2 s5 s6 s7 ω
      obtain ⟨a1, a2, a3, a4, a5, e2⟩ := seen_loop o h0 h1 ω gs (acc ++ if seesB (at' hs) p g then [g] else []) t2 (.val (.int g)) t5 t6 t7 (fun g' h' => hg g' (List.mem_cons_of_mem _ h')) (by rw [List.length_append]; split <;> simp <;> omega)
      refine ⟨a1, a2, a3, a4, a5, ?_⟩
      rw [List.map_cons]
      unfold forS
      simp only [nmT, List.set, e, e2, List.filter_cons]
      cases seesB (at' hs) p g <;> simp
theorem seen_eval {hs : List Int} (o : Okh hs) {p : Int} (h0 : 0 ≤ p) (h1 : p < hs.length) (ω : W3) : fM_seen_from [L hs, .int p] ω = .ok (TU (seenL hs p)) ω := by
  have hn : (hs.length : Int) < 8 := by have := o.len; omega
  obtain ⟨s2, s4, s5, s6, s7, e⟩ := seen_loop o h0 h1 ω (rangeI 0 hs.length) [] .no .no .no .no .no (fun g hg => by rw [mem_rangeI] at hg; omega) (by rw [rangeI_len]; simp; omega)
  have r : rgOk (hs.length : Int) = true := rgOk_small (by omega) (by omega)
  have e' : forS (nmT 4) b_seen_from_2 ((rangeI 0 hs.length).map D.int) [.val (L hs), .val (.int p), .no, .own (.lst []), .no, .no, .no, .no] ω = .nx [.val (L hs), .val (.int p), s2, .own (L (seenL hs p)), s4, s5, s6, s7] ω := e
  refine runM_rt (ω' := ω) ?_
  show b_seen_from [.val (L hs), .val (.int p), .no, .no, .no, .no, .no, .no] ω = _
  unfold b_seen_from
  rw [seqS_nx (ownS_ok (ds := []) (ρ' := [.val (L hs), .val (.int p), .no, .no, .no, .no, .no, .no]) (ω' := ω) (by simp [lstF, nilM, Out.andThen]))]
  rw [seqS_nx ((forM_ok (ds := (rangeI 0 hs.length).map D.int) (ρ' := [.val (L hs), .val (.int p), .no, .own (.lst []), .no, .no, .no, .no]) (ω' := ω) (by simp [rng1M, op1, bw, Out.andThen, optM, lenD_L, r, rangeL_I])).trans e')]
  exact rtS_ok (ρ' := [.val (L hs), .val (.int p), s2, .own (L (seenL hs p)), s4, s5, s6, s7]) (by simp [op1, bw, Out.andThen, optM, tupOf, items?])
theorem sees_loop {hs : List Int} (o : Okh hs) (lo hi : Int) (h0 : 0 ≤ lo) (h1 : hi < hs.length) (s1 s2 : Slot) (ω : W3) : ∀ (ks : List Int) (s4 : Slot), (∀ k ∈ ks, lo < k ∧ k < hi) →
    (ks.all (fun k => !inWay (at' hs) lo hi k) = true ∧ ∃ s4', forS (nmT 4) b_n_law_sees_1 (ks.map D.int) [.val (L hs), s1, s2, .val (.int hi), s4, .val (.int lo)] ω = .nx [.val (L hs), s1, s2, .val (.int hi), s4', .val (.int lo)] ω) ∨
    (ks.all (fun k => !inWay (at' hs) lo hi k) = false ∧ forS (nmT 4) b_n_law_sees_1 (ks.map D.int) [.val (L hs), s1, s2, .val (.int hi), s4, .val (.int lo)] ω = .rt (.bl false) ω)
  | [], s4, _ => .inl ⟨rfl, s4, rfl⟩
  | k :: ks, s4, hk => by
    obtain ⟨k1, k2⟩ := hk k List.mem_cons_self
    have hl7 := o.len
    have v1 := at_val o (k := lo) (by omega) (by omega)
    have v2 := at_val o (k := hi) (by omega) (by omega)
    have m1 : cMul (at' hs k) (hi - lo) = true := cMul_small (by omega) (by omega)
    have m2 : cMul (at' hs lo) (hi - lo) = true := cMul_small (by omega) (by omega)
    have m3 : cMul (at' hs hi - at' hs lo) (k - lo) = true := cMul_small (by omega) (by omega)
    have e1 := ixD_L (xs := hs) (k := k) (by omega) (by omega)
    have e2 := ixD_L (xs := hs) (k := lo) (by omega) (by omega)
    have e3 := ixD_L (xs := hs) (k := hi) (by omega) (by omega)
    have t : asB (op2 geD (op2 mulD (op2 ixD (bw 0) (bw 4)) (op2 subD (bw 3) (bw 5))) (op2 addD (op2 mulD (op2 ixD (bw 0) (bw 5)) (op2 subD (bw 3) (bw 5))) (op2 mulD (op2 subD (op2 ixD (bw 0) (bw 3)) (op2 ixD (bw 0) (bw 5))) (op2 subD (bw 4) (bw 5))))) [.val (L hs), s1, s2, .val (.int hi), .val (.int k), .val (.int lo)] ω = .ok (inWay (at' hs) lo hi k) [.val (L hs), s1, s2, .val (.int hi), .val (.int k), .val (.int lo)] ω := by
      simp only [asB, op2, bw, List.getElem?_cons_succ, List.getElem?_cons_zero, Out.andThen, optM, e1, e2, e3, subD_i, mulD_i m1, mulD_i m2, mulD_i m3, addD_i, geD_i, inWay]
    rw [List.map_cons]
    cases hb : inWay (at' hs) lo hi k with
    | true =>
      rw [hb] at t
      exact .inr ⟨by simp [hb], forS_rt (d := .int k) rfl ((ifS_t t).trans (rtS_ok rfl))⟩
    | false =>
      rw [hb] at t
      have e : forS (nmT 4) b_n_law_sees_1 (.int k :: ks.map D.int) [.val (L hs), s1, s2, .val (.int hi), s4, .val (.int lo)] ω = forS (nmT 4) b_n_law_sees_1 (ks.map D.int) [.val (L hs), s1, s2, .val (.int hi), .val (.int k), .val (.int lo)] ω := forS_nx (d := .int k) rfl ((ifS_f t).trans rfl)
      rw [e]
      have a : (k :: ks).all (fun k => !inWay (at' hs) lo hi k) = ks.all fun k => !inWay (at' hs) lo hi k := by simp [hb]
      rw [a]
      exact sees_loop o lo hi h0 h1 s1 s2 ω ks (.val (.int k)) fun k' h' => hk k' (List.mem_cons_of_mem _ h')
theorem sees_eval {hs : List Int} (o : Okh hs) {a b : Int} (a0 : 0 ≤ a) (a1 : a < hs.length) (b0 : 0 ≤ b) (b1 : b < hs.length) (ω : W3) : fM_n_law_sees [L hs, .int a, .int b] ω = .ok (.bl (seesB (at' hs) a b)) ω := by
  have hn : (hs.length : Int) < 8 := by have := o.len; omega
  have hlo0 : 0 ≤ (if b < a then b else a) := by split <;> omega
  have hhi1 : (if b > a then b else a) < hs.length := by split <;> omega
  have hlo1 : (if b < a then b else a) < hs.length := by split <;> omega
  have hhi0 : 0 ≤ (if b > a then b else a) := by split <;> omega
  have r1 : rgOk ((if b < a then b else a) + 1) = true := rgOk_small (by omega) (by omega)
  have r2 : rgOk (if b > a then b else a) = true := rgOk_small (by omega) (by omega)
  generalize hlo : (if b < a then b else a) = lo at *
  generalize hhi : (if b > a then b else a) = hi at *
  have hs0 : seesB (at' hs) a b = (rangeI (lo + 1) (hi - (lo + 1)).toNat).all fun k => !inWay (at' hs) lo hi k := by unfold seesB; rw [hlo, hhi]
  refine runM_rt (ω' := ω) ?_
  show b_n_law_sees [.val (L hs), .val (.int a), .val (.int b), .no, .no, .no] ω = _
  unfold b_n_law_sees
  rw [seqS_nx (parS_ok (x := .int lo) (y := .int hi) (ρ' := [.val (L hs), .val (.int a), .val (.int b), .no, .no, .no]) (ω' := ω) (by simp [consM, nilM, op2, bw, Out.andThen, optM, min2D_i, max2D_i, hlo, hhi]))]
  have ef := forM_ok (tm := nmT 4) (s := b_n_law_sees_1) (fl := rng2M (op2 addD (bw 5) (kk (.int 1))) (bw 3)) (ds := (rangeI (lo + 1) (hi - (lo + 1)).toNat).map D.int) (ρ := [.val (L hs), .val (.int a), .val (.int b), .val (.int hi), .no, .val (.int lo)]) (ρ' := [.val (L hs), .val (.int a), .val (.int b), .val (.int hi), .no, .val (.int lo)]) (ω := ω) (ω' := ω) (by simp [rng2M, op2, bw, kk, Out.andThen, optM, addD_i, r1, r2, rangeL_I])
  have hk : ∀ k ∈ rangeI (lo + 1) (hi - (lo + 1)).toNat, lo < k ∧ k < hi := fun k hk => by rw [mem_rangeI] at hk; omega
  rcases sees_loop o lo hi hlo0 hhi1 (.val (.int a)) (.val (.int b)) ω _ .no hk with ⟨h, s4, e⟩ | ⟨h, e⟩
  · rw [hs0, h]
    exact (seqS_nx (ef.trans e)).trans (rtS_ok rfl)
  · rw [hs0, h]
    exact seqS_rt (ef.trans e)
/-! ### the hull, in plain words -/
def turnI (h : Int → Int) (a b c : Int) : Int := (b - a) * (h c - h a) - (c - a) * (h b - h a)
/-- the line from a to b lies over all of 0 .. n - 1, strictly between a and b -/
structure Edge (h : Int → Int) (n a b : Int) : Prop where
  lt : a < b
  all : ∀ j, 0 ≤ j → j < n → h j * (b - a) ≤ h a * (b - a) + (h b - h a) * (j - a)
  str : ∀ j, a < j → j < b → h j * (b - a) < h a * (b - a) + (h b - h a) * (j - a)
/-- the top first -/
def pops (h : Int → Int) (k : Int) : List Int → List Int
  | b :: a :: r => if 0 < turnI h a b k then pops h k (a :: r) else b :: a :: r
  | s => s
def Chain (h : Int → Int) (n : Int) : List Int → Prop
  | b :: a :: r => Edge h n a b ∧ Chain h n (a :: r)
  | s => s = [0]
theorem Chain.ne {h : Int → Int} {n : Int} {s : List Int} (c : Chain h n s) : s ≠ [] := by
  intro e; rw [e] at c; exact absurd c (by simp [Chain])
/-- b (below the line a, k) goes: all between a and k lie strictly below the line a, k -/
theorem pop_str {h : Int → Int} {k a b : Int} (e : Edge h k a b) (hbk : b < k) (t : 0 < turnI h a b k) (hs : ∀ j, b < j → j < k → h j * (k - b) < h b * (k - b) + (h k - h b) * (j - b)) :
    ∀ j, a < j → j < k → h j * (k - a) < h a * (k - a) + (h k - h a) * (j - a) := fun j h1 h2 => by
  unfold turnI at t
  have ab := e.lt
  by_cases c1 : j < b
  · have s := e.str j h1 c1
    have p1 := Int.mul_lt_mul_of_pos_right s (show 0 < k - a by omega)
    have p2 := Int.mul_lt_mul_of_pos_right t (show 0 < j - a by omega)
    apply Int.lt_of_mul_lt_mul_right (a := b - a) _ (by omega)
    grind
  · by_cases c2 : j = b
    · subst c2; grind
    · have s := hs j (by omega) h2
      have p1 := Int.mul_lt_mul_of_pos_right s (show 0 < k - a by omega)
      have p2 := Int.mul_lt_mul_of_pos_right t (show 0 < k - j by omega)
      apply Int.lt_of_mul_lt_mul_right (a := k - b) _ (by omega)
      grind
/-- the line b, k over what stands left of b -/
theorem left_all {h : Int → Int} {k a b : Int} (e : Edge h k a b) (hbk : b < k) (t : ¬ 0 < turnI h a b k) : ∀ j, 0 ≤ j → j ≤ b → h j * (k - b) ≤ h b * (k - b) + (h k - h b) * (j - b) := fun j h1 h2 => by
  unfold turnI at t
  have ab := e.lt
  have s := e.all j h1 (by omega)
  have p1 := Int.mul_le_mul_of_nonneg_right s (show 0 ≤ k - b by omega)
  have p2 := Int.mul_le_mul_of_nonneg_right (Int.not_lt.mp t) (show 0 ≤ b - j by omega)
  apply Int.le_of_mul_le_mul_right (a := b - a) _ (by omega)
  grind
/-- k is under the edge that stands -/
theorem edge_more {h : Int → Int} {k a b : Int} (e : Edge h k a b) (t : turnI h a b k ≤ 0) : Edge h (k + 1) a b := ⟨e.lt, fun j h0 h1 => by
  by_cases c : j = k
  · subst c
    unfold turnI at t
    grind
  · exact e.all j h0 (by omega), e.str⟩
/-- .. and so are the edges below it -/
theorem turn_down {h : Int → Int} {k z a b : Int} (e : Edge h k z a) (hb0 : 0 ≤ b) (hab : a < b) (hbk : b < k) (t : turnI h a b k ≤ 0) : turnI h z a k ≤ 0 := by
  have s := e.all b hb0 hbk
  have za := e.lt
  unfold turnI at *
  have p1 := Int.mul_le_mul_of_nonneg_right s (show 0 ≤ k - a by omega)
  have p2 := Int.mul_le_mul_of_nonneg_right t (show 0 ≤ a - z by omega)
  apply Int.le_of_mul_le_mul_right (a := b - a) _ (by omega)
  grind

theorem chain_nn {h : Int → Int} {n : Int} : ∀ {r : List Int} {b : Int}, Chain h n (b :: r) → 0 ≤ b
  | [], b, c => by simp only [Chain, List.cons.injEq, and_true] at c; omega
  | a :: r, b, c => by
    have := chain_nn c.2
    have := c.1.lt
    omega
theorem chain_more {h : Int → Int} {k : Int} : ∀ {r : List Int} {a b : Int}, Chain h k (a :: r) → a < b → b < k → turnI h a b k ≤ 0 → Chain h (k + 1) (a :: r)
  | [], a, b, c, _, _, _ => c
  | z :: r, a, b, c, hab, hbk, t => by
    have nn := chain_nn c
    have t2 := turn_down c.1 (by omega) hab hbk t
    exact ⟨edge_more c.1 t2, chain_more c.2 c.1.lt (by omega) t2⟩
theorem edge_top {h : Int → Int} {k b : Int} (hbk : b < k) (hl : ∀ j, 0 ≤ j → j < b → h j * (k - b) ≤ h b * (k - b) + (h k - h b) * (j - b)) (hs : ∀ j, b < j → j < k → h j * (k - b) < h b * (k - b) + (h k - h b) * (j - b)) : Edge h (k + 1) b k :=
  ⟨hbk, fun j h0 h1 => by
    by_cases c1 : j < b
    · exact hl j h0 c1
    · by_cases c2 : j = b
      · subst c2; grind
      · by_cases c3 : j = k
        · subst c3; grind
        · exact Int.le_of_lt (hs j (by omega) (by omega)), hs⟩
theorem pops_ok {h : Int → Int} {k : Int} : ∀ {r : List Int} {b : Int}, Chain h k (b :: r) → b < k → (∀ j, b < j → j < k → h j * (k - b) < h b * (k - b) + (h k - h b) * (j - b)) → Chain h (k + 1) (k :: pops h k (b :: r))
  | [], b, c, hbk, hs => by
    have c' := c
    simp only [Chain, List.cons.injEq, and_true] at c'
    subst c'
    exact ⟨edge_top hbk (fun j h0 h1 => absurd h1 (by omega)) hs, c⟩
  | a :: r, b, c, hbk, hs => by
    unfold pops
    by_cases t : 0 < turnI h a b k
    · rw [if_pos t]
      have ab := c.1.lt
      exact pops_ok c.2 (by omega) (pop_str c.1 hbk t hs)
    · rw [if_neg t]
      have t' : turnI h a b k ≤ 0 := by omega
      refine ⟨edge_top hbk (fun j h0 h1 => left_all c.1 hbk t j h0 (by omega)) hs, edge_more c.1 t', chain_more c.2 c.1.lt hbk t'⟩
/-- the stack behind the places 0 .. k - 1 -/
def stk (h : Int → Int) : Nat → List Int
  | 0 => []
  | k + 1 => (k : Int) :: pops h k (stk h k)
theorem stk_chain (h : Int → Int) : ∀ k : Nat, ∃ r, stk h (k + 1) = (k : Int) :: r ∧ Chain h ((k : Int) + 1) (stk h (k + 1))
  | 0 => ⟨[], rfl, rfl⟩
  | k + 1 => by
    obtain ⟨r, e, c⟩ := stk_chain h k
    refine ⟨_, rfl, ?_⟩
    show Chain h _ (((k + 1 : Nat) : Int) :: pops h ((k + 1 : Nat) : Int) (stk h (k + 1)))
    rw [e] at c ⊢
    have e2 : ((k + 1 : Nat) : Int) = (k : Int) + 1 := by omega
    rw [e2]
    exact pops_ok c (by omega) fun j h1 h2 => absurd h1 (by omega)
theorem pops_sub {h : Int → Int} {k : Int} : ∀ (s : List Int), ∀ x ∈ pops h k s, x ∈ s
  | [], x, hx => by simp [pops] at hx
  | [b], x, hx => by simpa [pops] using hx
  | b :: a :: r, x, hx => by
    unfold pops at hx
    split at hx
    · exact List.mem_cons_of_mem _ (pops_sub (a :: r) x hx)
    · exact hx
theorem pops_len {h : Int → Int} {k : Int} : ∀ (s : List Int), (pops h k s).length ≤ s.length
  | [] => by simp [pops]
  | [b] => by simp [pops]
  | b :: a :: r => by
    unfold pops
    split
    · have := pops_len (h := h) (k := k) (a :: r); simp at this ⊢; omega
    · exact Nat.le_refl _
theorem stk_bd (h : Int → Int) : ∀ (k : Nat), (∀ x ∈ stk h k, 0 ≤ x ∧ x < k) ∧ (stk h k).length ≤ k
  | 0 => ⟨by simp [stk], by simp [stk]⟩
  | k + 1 => by
    obtain ⟨h1, h2⟩ := stk_bd h k
    refine ⟨fun x hx => ?_, ?_⟩
    · unfold stk at hx
      rcases List.mem_cons.mp hx with rfl | hx
      · omega
      · have := h1 x (pops_sub _ x hx); omega
    · unfold stk
      have := pops_len (h := h) (k := k) (stk h k)
      simp; omega
/-! the walk of the hull -/
theorem turn_eval {hs : List Int} (o : Okh hs) {a b c : Int} (a0 : 0 ≤ a) (a1 : a < hs.length) (b0 : 0 ≤ b) (b1 : b < hs.length) (c0 : 0 ≤ c) (c1 : c < hs.length) (ω : W3) : fM_turn [L hs, .int a, .int b, .int c] ω = .ok (.int (turnI (at' hs) a b c)) ω := by
  have v1 := at_val o a0 a1
  have v2 := at_val o b0 b1
  have v3 := at_val o c0 c1
  have m1 : cMul (b - a) (at' hs c - at' hs a) = true := cMul_small (by omega) (by omega)
  have m2 : cMul (c - a) (at' hs b - at' hs a) = true := cMul_small (by omega) (by omega)
  refine runM_rt (ω' := ω) ?_
  show b_turn [.val (L hs), .val (.int a), .val (.int b), .val (.int c)] ω = _
  exact rtS_ok (ρ' := [.val (L hs), .val (.int a), .val (.int b), .val (.int c)]) (by simp only [op2, bw, List.getElem?_cons_succ, List.getElem?_cons_zero, Out.andThen, optM, ixD_L a0 a1, ixD_L b0 b1, ixD_L c0 c1, subD_i, mulD_i m1, mulD_i m2, turnI])
theorem ix_last {xs : List Int} {b : Int} {r : List Int} (e : xs = (b :: r).reverse) : ixD (L xs) (.int (-1)) = some (.int b) := by
  subst e
  refine ixD_neg (xs := ((b :: r).reverse).map D.int) rfl (by omega) (by simp; omega) ?_
  have : (-1 + (((b :: r).reverse.map D.int).length : Int)).toNat = r.length := by simp; omega
  rw [this]
  simp
theorem ix_last2 {xs : List Int} {a b : Int} {r : List Int} (e : xs = (b :: a :: r).reverse) : ixD (L xs) (.int (-2)) = some (.int a) := by
  subst e
  refine ixD_neg (xs := ((b :: a :: r).reverse).map D.int) rfl (by omega) (by simp; omega) ?_
  have : (-2 + (((b :: a :: r).reverse.map D.int).length : Int)).toNat = r.length := by simp; omega
  rw [this]
  simp
def hullTest : EM Bool := andT (asB (op2 gtD (op1 lenD (bw 1)) (kk (.int 1)))) (asB (op2 gtD (callM fM_turn 4 (consM (vr 0) (consM (op2 ixD (bw 1) (op1 negD (kk (.int 2)))) (consM (op2 ixD (bw 1) (op1 negD (kk (.int 1)))) (consM (vr 2) (nilM)))))) (kk (.int 0))))
theorem hull_test2 {hs : List Int} (o : Okh hs) {k a b : Int} {r : List Int} (k0 : 0 ≤ k) (k1 : k < hs.length) (a0 : 0 ≤ a) (a1 : a < hs.length) (b0 : 0 ≤ b) (b1 : b < hs.length) (ω : W3) :
    hullTest [.val (L hs), .own (L (b :: a :: r).reverse), .val (.int k)] ω = .ok (decide (0 < turnI (at' hs) a b k)) [.val (L hs), .own (L (b :: a :: r).reverse), .val (.int k)] ω := by
  have g : (1 : Int) < (((b :: a :: r).reverse).length : Int) := by simp; omega
  have ec : callM fM_turn 4 (consM (vr 0) (consM (op2 ixD (bw 1) (op1 negD (kk (.int 2)))) (consM (op2 ixD (bw 1) (op1 negD (kk (.int 1)))) (consM (vr 2) (nilM))))) [.val (L hs), .own (L (b :: a :: r).reverse), .val (.int k)] ω = .ok (.int (turnI (at' hs) a b k)) [.val (L hs), .own (L (b :: a :: r).reverse), .val (.int k)] ω := by
    refine callM_ok (xs := [L hs, .int a, .int b, .int k]) (ω' := ω) ?_ rfl (turn_eval o a0 a1 b0 b1 k0 k1 ω)
    simp only [consM, nilM, vr, op2, op1, bw, kk, Out.andThen, optM, List.getElem?_cons_succ, List.getElem?_cons_zero, negD_i, ix_last rfl, ix_last2 rfl]
  unfold hullTest
  simp only [andT, asB, op2, op1, bw, kk, Out.andThen, optM, List.getElem?_cons_succ, List.getElem?_cons_zero, lenD_L, gtD_i, decide_eq_true g, ec]
theorem hull_test1 {hs : List Int} {k : Int} {s : List Int} (hl : s.length ≤ 1) (ω : W3) : hullTest [.val (L hs), .own (L s.reverse), .val (.int k)] ω = .ok false [.val (L hs), .own (L s.reverse), .val (.int k)] ω := by
  have g : ¬ (1 : Int) < ((s.reverse).length : Int) := by simp; omega
  unfold hullTest
  simp only [andT, asB, op2, op1, bw, kk, Out.andThen, optM, List.getElem?_cons_succ, List.getElem?_cons_zero, lenD_L, gtD_i, decide_eq_false g]
theorem hull_while {hs : List Int} (o : Okh hs) {k : Int} (k0 : 0 ≤ k) (k1 : k < hs.length) (ω : W3) : ∀ (s : List Int) (n : Nat), s.length < n → (∀ x ∈ s, 0 ≤ x ∧ x < hs.length) →
    whileS hullTest b_hull_1 n [.val (L hs), .own (L s.reverse), .val (.int k)] ω = .nx [.val (L hs), .own (L (pops (at' hs) k s).reverse), .val (.int k)] ω
  | [], n + 1, _, _ => (whileS_f (hull_test1 (s := []) (by simp) ω)).trans (by simp [pops])
  | [b], n + 1, _, _ => (whileS_f (hull_test1 (s := [b]) (by simp) ω)).trans (by simp [pops])
  | b :: a :: r, n + 1, hl, hb => by
    have hb0 := hb b List.mem_cons_self
    have ha0 := hb a (List.mem_cons_of_mem _ List.mem_cons_self)
    have t := hull_test2 o (r := r) k0 k1 ha0.1 ha0.2 hb0.1 hb0.2 ω
    unfold pops
    by_cases c : 0 < turnI (at' hs) a b k
    · rw [decide_eq_true c] at t
      rw [if_pos c, ← hull_while o k0 k1 ω (a :: r) n (by simp at hl ⊢; omega) fun x hx => hb x (List.mem_cons_of_mem _ hx)]
      refine whileS_t t ?_
      unfold b_hull_1
      simp [popDropS]
    · rw [decide_eq_false c] at t
      rw [if_neg c]
      exact whileS_f t
theorem hull_loop {hs : List Int} (o : Okh hs) (ω : W3) : ∀ (m k : Nat) (s2 : Slot), k + m = hs.length → ∃ s2', forS (nmT 2) b_hull_2 ((rangeI k m).map D.int) [.val (L hs), .own (L (stk (at' hs) k).reverse), s2] ω = .nx [.val (L hs), .own (L (stk (at' hs) hs.length).reverse), s2'] ω
  | 0, k, s2, e => ⟨s2, by rw [show k = hs.length by omega]; rfl⟩
  | m + 1, k, s2, e => by
    obtain ⟨s2', ih⟩ := hull_loop o ω m (k + 1) (.val (.int k)) (by omega)
    refine ⟨s2', ?_⟩
    have er : rangeI (k : Int) (m + 1) = (k : Int) :: rangeI ((k + 1 : Nat) : Int) m := by
      unfold rangeI
      rw [List.range_succ_eq_map, List.map_cons, List.map_map]
      refine congr (congrArg _ (by omega)) (List.map_congr_left fun i _ => ?_)
      simp only [Function.comp]; omega
    rw [er, List.map_cons]
    obtain ⟨bd, ln⟩ := stk_bd (at' hs) k
    have hl7 := o.len
    refine (forS_nx (d := .int (k : Int)) (ρ' := [.val (L hs), .own (L (stk (at' hs) k).reverse), .val (.int k)]) rfl ?_).trans ih
    have hw := hull_while o (k := k) (by omega) (by omega) ω (stk (at' hs) k) 1000 (by omega) fun x hx => by have := bd x hx; omega
    refine (seqS_nx (u := appS 1 (vr 2)) hw).trans ?_
    have hlen : ((pops (at' hs) k (stk (at' hs) k)).reverse.map D.int).length < LIM := by
      have := pops_len (h := at' hs) (k := k) (stk (at' hs) k)
      simp; unfold LIM; omega
    refine (appS_ok (i := 1) (f := vr 2) (ρ := [.val (L hs), .own (L (pops (at' hs) k (stk (at' hs) k)).reverse), .val (.int k)]) (ρ' := [.val (L hs), .own (L (pops (at' hs) k (stk (at' hs) k)).reverse), .val (.int k)]) (d := .int k) (ω' := ω) rfl rfl rfl hlen).trans ?_
    simp [stk]
theorem hull_eval {hs : List Int} (o : Okh hs) (ω : W3) : fM_hull [L hs] ω = .ok (TU (stk (at' hs) hs.length).reverse) ω := by
  have hn : (hs.length : Int) < 8 := by have := o.len; omega
  have r : rgOk (hs.length : Int) = true := rgOk_small (by omega) (by omega)
  obtain ⟨s2, e⟩ := hull_loop o ω hs.length 0 .no (by omega)
  refine runM_rt (ω' := ω) ?_
  show b_hull [.val (L hs), .no, .no] ω = _
  unfold b_hull
  rw [seqS_nx (ownS_ok (fl := lstF nilM) (ds := []) (ρ' := [.val (L hs), .no, .no]) (ω' := ω) (by simp [lstF, nilM, Out.andThen]))]
  rw [seqS_nx ((forM_ok (ds := (rangeI 0 hs.length).map D.int) (ρ' := [.val (L hs), .own (.lst []), .no]) (ω' := ω) (by simp [rng1M, op1, bw, Out.andThen, optM, lenD_L, r, rangeL_I])).trans e)]
  exact rtS_ok rfl

/-! ### stations -/
def subs : Nat → List (List Int)
  | 0 => [[]]
  | k + 1 => subs k ++ (subs k).map fun r => r ++ [(k : Int)]
theorem subs_len : ∀ k : Nat, (subs k).length = 2 ^ k
  | 0 => rfl
  | k + 1 => by simp only [subs, List.length_append, List.length_map, subs_len k, Nat.pow_succ]; omega
theorem subs_bd : ∀ (k : Nat), ∀ r ∈ subs k, r.length ≤ k ∧ ∀ x ∈ r, 0 ≤ x ∧ x < k
  | 0, r, h => by simp [subs] at h; subst h; simp
  | k + 1, r, h => by
    simp only [subs, List.mem_append, List.mem_map] at h
    rcases h with h | ⟨r', h, rfl⟩
    · obtain ⟨h1, h2⟩ := subs_bd k r h
      exact ⟨by omega, fun x hx => by have := h2 x hx; omega⟩
    · obtain ⟨h1, h2⟩ := subs_bd k r' h
      refine ⟨by simp; omega, fun x hx => ?_⟩
      rcases List.mem_append.mp hx with hx | hx
      · have := h2 x hx; omega
      · simp at hx; omega
theorem subs_full : ∀ k : Nat, rangeI 0 k ∈ subs k
  | 0 => by simp [subs, rangeI]
  | k + 1 => by
    have ih := subs_full k
    simp only [subs, List.mem_append, List.mem_map]
    refine .inr ⟨_, ih, ?_⟩
    simp [rangeI, List.range_succ]
theorem pow_le {k : Nat} (h : k ≤ 7) : 2 ^ k ≤ 128 := by
  have := Nat.pow_le_pow_right (n := 2) (by omega) h
  omega
/-- rows = rows + [row + (k,) for row in rows], in any frame -/
theorem subs_step {i c v : Nat} {ρ : Fr} {ω : W3} {k : Nat} (hk : k ≤ 7) (hi : ρ[i]? = some (.val (.lst ((subs k).map TU)))) (hv : ρ[v]? = some (.val (.int k))) (hc : c < ρ.length) (hn : isOwn ρ[c]? = false) (hic : c ≠ i) (hvc : c ≠ v) :
    op2 addD (bw i) (frz (lcM [c] (itM (bw i)) (nmT c) (yesT) (op2 addD (bw c) (tupM (consM (vr v) (nilM)))))) ρ ω = .ok (.lst ((subs (k + 1)).map TU)) ρ ω := by
  have hb : ∀ ω, bw i ρ ω = .ok (.lst ((subs k).map TU)) ρ ω := fun ω => by unfold bw; rw [hi]
  have hp := pow_le hk
  have e := lc1_map (c := c) (it := itM (bw i)) (te := op2 addD (bw c) (tupM (consM (vr v) (nilM)))) (ρ := ρ) (ω := ω) (ds := (subs k).map TU) (fun d => match d with | .tup xs => .tup (xs ++ [.int k]) | _ => .non)
    (by simp only [itM, hb, Out.andThen, optM, items?]) hn hc (by rw [List.length_map, subs_len]; unfold LIM; omega) (fun d hd => by
      obtain ⟨r, hr, rfl⟩ := List.mem_map.mp hd
      have h1 : bw c (ρ.set c (.val (TU r))) ω = .ok (TU r) (ρ.set c (.val (TU r))) ω := by unfold bw; rw [List.getElem?_set_self hc]
      have h2 : vr v (ρ.set c (.val (TU r))) ω = .ok (.int k) (ρ.set c (.val (TU r))) ω := by unfold vr; rw [List.getElem?_set_ne hvc, hv]
      have hl := (subs_bd k r hr).1
      have h3 : addD (TU r) (.tup [.int k]) = some (.tup (r.map D.int ++ [.int k])) := by
        unfold addD
        simp only
        rw [if_pos (by simp; unfold LIM; omega)]
      simp only [op2, h1, Out.andThen, tupM, consM, h2, nilM, List.length_cons, List.length_nil, optM]
      rw [if_pos (by unfold LIM; omega)]
      simp only [h3])
  simp only [op2, hb, Out.andThen, frz, e, optM]
  have h4 : ((subs k).map TU).map (fun d => match d with | .tup xs => .tup (xs ++ [.int k]) | _ => .non) = ((subs k).map fun r => r ++ [(k : Int)]).map TU := by
    rw [List.map_map, List.map_map]
    exact List.map_congr_left fun r _ => by simp
  rw [h4]
  have h5 : addD (.lst ((subs k).map TU)) (.lst (((subs k).map fun r => r ++ [(k : Int)]).map TU)) = some (.lst ((subs (k + 1)).map TU)) := by
    unfold addD
    simp only
    rw [if_pos (by simp [subs_len]; unfold LIM; omega)]
    simp [subs]
  rw [h5]
/-! covering -/
def covB (hs : List Int) (r : List Int) (g : Int) : Bool := r.any fun p => (seenL hs p).contains g
def allB (hs : List Int) (r : List Int) : Bool := (rangeI 0 hs.length).all fun g => covB hs r g
def addK (K : List Int) (g : Int) : List Int := if K.contains g then K else K ++ [g]
def keysR (hs : List Int) (r : List Int) : List Int := r.foldl (fun K p => (seenL hs p).foldl addK K) []
theorem rangeI_nd (lo : Int) (n : Nat) : (rangeI lo n).Nodup := by
  unfold rangeI
  exact (List.nodup_range).map (f := fun (i : Nat) => lo + (i : Int)) (fun a b h => by simp at h; omega) |> fun h => h
theorem cov_add {K : List Int} {g : Int} (hg : g ∉ K) : ∀ xs : List Int, xs.Nodup → (xs.filter fun x => (K ++ [g]).contains x).length = (xs.filter fun x => K.contains x).length + if g ∈ xs then 1 else 0
  | [], _ => by simp
  | x :: xs, h => by
    obtain ⟨h1, h2⟩ := List.nodup_cons.mp h
    have ih := cov_add hg xs h2
    simp only [List.filter_cons, List.contains_eq_mem] at ih ⊢
    by_cases hx : x = g
    · subst hx
      simp [hg, h1] at ih ⊢
      omega
    · have hx' : ¬ g = x := fun z => hx z.symm
      by_cases hk : x ∈ K
      · simp [hk, hx'] at ih ⊢
        omega
      · simp [hk, hx, hx'] at ih ⊢
        omega
theorem addK_inv {K : List Int} {g : Int} {n : Nat} (hg : 0 ≤ g ∧ g < n) (h : K.length = ((rangeI 0 n).filter fun x => K.contains x).length) : (addK K g).length = ((rangeI 0 n).filter fun x => (addK K g).contains x).length ∧ ∀ x, x ∈ addK K g ↔ x ∈ K ∨ x = g := by
  unfold addK
  by_cases c : K.contains g = true
  · rw [if_pos c]
    refine ⟨h, fun x => ⟨.inl, fun z => z.elim id fun e => ?_⟩⟩
    rw [e]; simpa using c
  · rw [if_neg c]
    have hn : g ∉ K := by simpa using c
    refine ⟨?_, fun x => by simp⟩
    rw [cov_add hn _ (rangeI_nd 0 n), if_pos (mem_rangeI.mpr (by omega)), List.length_append, h]; rfl
theorem foldK_inv {n : Nat} : ∀ (gs K : List Int), (∀ g ∈ gs, 0 ≤ g ∧ g < n) → K.length = ((rangeI 0 n).filter fun x => K.contains x).length →
    (gs.foldl addK K).length = ((rangeI 0 n).filter fun x => (gs.foldl addK K).contains x).length ∧ ∀ x, x ∈ gs.foldl addK K ↔ x ∈ K ∨ x ∈ gs
  | [], K, _, h => ⟨h, by simp⟩
  | g :: gs, K, hg, h => by
    obtain ⟨h1, h2⟩ := addK_inv (hg g List.mem_cons_self) h
    obtain ⟨h3, h4⟩ := foldK_inv gs (addK K g) (fun g' hg' => hg g' (List.mem_cons_of_mem _ hg')) h1
    refine ⟨h3, fun x => ?_⟩
    rw [List.foldl_cons, h4, h2, List.mem_cons, or_assoc]
theorem seenL_bd {hs : List Int} {p g : Int} (h : g ∈ seenL hs p) : 0 ≤ g ∧ g < hs.length := by
  unfold seenL at h
  have := (List.mem_filter.mp h).1
  rw [mem_rangeI] at this; omega
theorem keys_fold {hs : List Int} : ∀ (r K : List Int), K.length = ((rangeI 0 hs.length).filter fun x => K.contains x).length →
    (r.foldl (fun K p => (seenL hs p).foldl addK K) K).length = ((rangeI 0 hs.length).filter fun x => (r.foldl (fun K p => (seenL hs p).foldl addK K) K).contains x).length ∧ ∀ x, x ∈ r.foldl (fun K p => (seenL hs p).foldl addK K) K ↔ x ∈ K ∨ ∃ p ∈ r, x ∈ seenL hs p
  | [], K, h => ⟨h, by simp⟩
  | p :: r, K, h => by
    obtain ⟨h1, h2⟩ := foldK_inv (n := hs.length) (seenL hs p) K (fun g hg => seenL_bd hg) h
    obtain ⟨h3, h4⟩ := keys_fold r _ h1
    refine ⟨h3, fun x => ?_⟩
    rw [List.foldl_cons, h4, h2]
    simp only [List.mem_cons, exists_eq_or_imp, or_assoc]
theorem keys_all {hs : List Int} (r : List Int) : decide (((keysR hs r).length : Int) = (hs.length : Int)) = allB hs r := by
  obtain ⟨h1, h2⟩ := keys_fold (hs := hs) r [] (by rw [List.filter_eq_nil_iff.mpr (by simp)])
  have e : (keysR hs r).length = ((rangeI 0 hs.length).filter fun x => (keysR hs r).contains x).length := h1
  have key : (keysR hs r).length = hs.length ↔ allB hs r = true := by
    rw [e]
    have hl := rangeI_len 0 hs.length
    have h5 : (((rangeI 0 hs.length).filter fun x => (keysR hs r).contains x).length = hs.length) ↔ (((rangeI 0 hs.length).filter fun x => (keysR hs r).contains x).length = (rangeI 0 hs.length).length) := by rw [hl]
    rw [h5, List.length_filter_eq_length_iff]
    unfold allB covB
    rw [List.all_eq_true]
    refine forall_congr' fun g => forall_congr' fun _ => ?_
    rw [List.any_eq_true, List.contains_iff_mem]
    have := h2 g
    simp only [List.not_mem_nil, false_or] at this
    rw [show (g ∈ keysR hs r) = (g ∈ r.foldl (fun K p => (seenL hs p).foldl addK K) []) from rfl, this]
    exact ⟨fun ⟨p, a, b⟩ => ⟨p, a, by simpa using b⟩, fun ⟨p, a, b⟩ => ⟨p, a, by simpa using b⟩⟩
  cases h : allB hs r with
  | true =>
    have k := key.mpr h
    exact decide_eq_true (by omega)
  | false =>
    refine decide_eq_false fun z => ?_
    have k := key.mp (by omega)
    rw [h] at k; cases k

def dD (K : List Int) : List (D × D) := K.map fun g => (D.int g, D.bl true)
theorem dD_any (g : Int) : ∀ K : List Int, ((dD K).any fun kv => sameK kv.1 (.inl g)) = K.contains g
  | [] => rfl
  | x :: K => by
    have ih := dD_any g K
    unfold dD at ih ⊢
    rw [List.map_cons, List.any_cons, ih, List.contains_cons]
    congr 1
    show decide (x = g) = (g == x)
    by_cases h : x = g
    · subst h; simp
    · rw [decide_eq_false h, beq_false_of_ne (fun z => h z.symm)]
theorem dD_map (g : Int) : ∀ K : List Int, ((dD K).map fun kv => if sameK kv.1 (.inl g) then (kv.1, D.bl true) else kv) = dD K
  | [] => rfl
  | x :: K => by
    have ih := dD_map g K
    unfold dD at ih ⊢
    rw [List.map_cons, List.map_cons, ih]
    congr 1
    split <;> rfl
theorem putKD_dD (K : List Int) (g : Int) : putKD (dD K) (.inl g) (.bl true) = dD (addK K g) := by
  unfold putKD addK
  rw [dD_any, dD_map]
  split
  · rfl
  · simp [dD, kD]
section
variable (a0 a1 a2 a3 a4 a5 a6 a7 : Slot) (ω : W3)
theorem dc_inner : ∀ (gs K : List Int) (s8 : Slot), K.length + gs.length ≤ 1000 → loopA [9] (stepK (nmT 9) (vr 9) (kk (.bl true))) (gs.map D.int) (dD K) [a0, a1, a2, a3, a4, a5, a6, a7, s8, .no] ω = .ok (dD (gs.foldl addK K)) [a0, a1, a2, a3, a4, a5, a6, a7, s8, .no] ω
  | [], K, s8, _ => rfl
  | g :: gs, K, s8, h => by
    have hl : (dD K).length < LIM := by simp [dD] at h ⊢; unfold LIM; omega
    have hk : (addK K g).length + gs.length ≤ 1000 := by
      have h' : K.length + (gs.length + 1) ≤ 1000 := h
      unfold addK
      split
      · omega
      · rw [List.length_append]; simp; omega
    have st : stepK (nmT 9) (vr 9) (kk (.bl true)) (.int g) (dD K) [a0, a1, a2, a3, a4, a5, a6, a7, s8, .no] ω = .ok (dD (addK K g)) [a0, a1, a2, a3, a4, a5, a6, a7, s8, .val (.int g)] ω := by
      simp only [stepK, nmT, List.set, vr, List.getElem?_cons_succ, List.getElem?_cons_zero, Out.thenB, kk, keyOf, hl, if_true, putKD_dD]
    rw [List.map_cons, List.foldl_cons, loopA]
    simp only [st, Out.thenB, wipeF, List.set]
    exact dc_inner gs (addK K g) s8 hk
end
theorem sight_at {hs : List Int} {p : Int} (h0 : 0 ≤ p) (h1 : p < hs.length) {f : List Int → D} (g : Int → List Int) : ixD (.lst ((rangeI 0 hs.length).map fun q => f (g q))) (.int p) = some (f (g p)) := by
  refine ixD_at (xs := (rangeI 0 hs.length).map fun q => f (g q)) rfl h0 ?_
  have hp : p.toNat < hs.length := by omega
  simp only [rangeI, List.map_map, List.getElem?_map, List.getElem?_range hp, Option.map_some, Function.comp]
  congr 3
  omega
theorem keys_len {hs : List Int} (r : List Int) (K : List Int) : (r.foldl (fun K p => (seenL hs p).foldl addK K) K).length ≤ K.length + r.length * hs.length := by
  have h1 : ∀ (gs K : List Int), (gs.foldl addK K).length ≤ K.length + gs.length := by
    intro gs
    induction gs with
    | nil => simp
    | cons g gs ih =>
      intro K
      have := ih (addK K g)
      have h2 : (addK K g).length ≤ K.length + 1 := by unfold addK; split <;> simp
      simp at this ⊢; omega
  induction r generalizing K with
  | nil => simp
  | cons p r ih =>
    have a := ih ((seenL hs p).foldl addK K)
    have b := h1 (seenL hs p) K
    have c : (seenL hs p).length ≤ hs.length := by
      unfold seenL
      have := List.length_filter_le (fun g => seesB (at' hs) p g) (rangeI 0 hs.length)
      rw [rangeI_len] at this; exact this
    simp only [List.foldl_cons, List.length_cons]
    have e : (r.length + 1) * hs.length = r.length * hs.length + hs.length := by rw [Nat.succ_mul]
    omega
def sightD (hs : List Int) : D := .lst ((rangeI 0 hs.length).map fun q => TU (seenL hs q))
theorem dc_outer {hs : List Int} (o : Okh hs) (a0 a1 a2 a3 a4 a5 a6 : Slot) (ω : W3) : ∀ (r K : List Int), K.length + r.length * hs.length ≤ 900 → (∀ p ∈ r, 0 ≤ p ∧ p < hs.length) →
    loopA [8, 9] (step2K [9] (nmT 8) (itM (op2 ixD (bw 7) (bw 8))) (nmT 9) (vr 9) (kk (.bl true))) (r.map D.int) (dD K) [a0, a1, a2, a3, a4, a5, a6, .val (sightD hs), .no, .no] ω = .ok (dD (r.foldl (fun K p => (seenL hs p).foldl addK K) K)) [a0, a1, a2, a3, a4, a5, a6, .val (sightD hs), .no, .no] ω
  | [], K, _, _ => rfl
  | p :: r, K, h, hb => by
    obtain ⟨p0, p1⟩ := hb p List.mem_cons_self
    have hl7 := o.len
    have e : (r.length + 1) * hs.length = r.length * hs.length + hs.length := by rw [Nat.succ_mul]
    have hkl := keys_len (hs := hs) [p] K
    simp only [List.foldl_cons, List.foldl_nil, List.length_cons, List.length_nil] at hkl h
    have hsl : (seenL hs p).length ≤ hs.length := by
      unfold seenL
      have := List.length_filter_le (fun g => seesB (at' hs) p g) (rangeI 0 hs.length)
      rw [rangeI_len] at this; exact this
    have ex : ixD (sightD hs) (.int p) = some (TU (seenL hs p)) := sight_at p0 p1 (f := TU) (fun q => seenL hs q)
    have inn := dc_inner a0 a1 a2 a3 a4 a5 a6 (.val (sightD hs)) ω (seenL hs p) K (.val (.int p)) (by omega)
    have st : step2K [9] (nmT 8) (itM (op2 ixD (bw 7) (bw 8))) (nmT 9) (vr 9) (kk (.bl true)) (.int p) (dD K) [a0, a1, a2, a3, a4, a5, a6, .val (sightD hs), .no, .no] ω = .ok (dD ((seenL hs p).foldl addK K)) [a0, a1, a2, a3, a4, a5, a6, .val (sightD hs), .val (.int p), .no] ω := by
      simp only [step2K, nmT, List.set, itM, op2, bw, List.getElem?_cons_succ, List.getElem?_cons_zero, Out.andThen, optM, ex, items?, Out.thenB, wipeF]
      exact inn
    rw [List.map_cons, List.foldl_cons, loopA]
    simp only [st, Out.thenB, wipeF, List.set]
    exact dc_outer o a0 a1 a2 a3 a4 a5 a6 ω r _ (by omega) fun q hq => hb q (List.mem_cons_of_mem _ hq)
def goodD (rs : List (List Int)) : List D := rs.map fun r => .tup [.int r.length, TU r]
theorem few_step {hs : List Int} (o : Okh hs) {r : List Int} (hr : r ∈ subs hs.length) (G : List (List Int)) (hG : G.length ≤ 1000) (s2 s5 s6 s8 s9 : Slot) (h8 : isOwn (some s8) = false) (h9 : isOwn (some s9) = false) (ω : W3) :
    b_fewest_stations_2 [.val (L hs), .own (.lst (goodD G)), s2, .val (.int hs.length), .val (TU r), s5, s6, .val (sightD hs), s8, s9] ω = .nx [.val (L hs), .own (.lst (goodD (G ++ if allB hs r then [r] else []))), s2, .val (.int hs.length), .val (TU r), s5, .val (.dct (dD (keysR hs r))), .val (sightD hs), s8, s9] ω := by
  obtain ⟨hl, hb⟩ := subs_bd _ r hr
  have hl7 := o.len
  have hm : r.length * hs.length ≤ 49 := Nat.mul_le_mul (show r.length ≤ 7 by omega) (show hs.length ≤ 7 by omega)
  have e1 : setS 6 (dc2M [8, 9] [9] (itM (vr 4)) (nmT 8) (itM (op2 ixD (bw 7) (bw 8))) (nmT 9) (vr 9) (kk (.bl true))) [.val (L hs), .own (.lst (goodD G)), s2, .val (.int hs.length), .val (TU r), s5, s6, .val (sightD hs), s8, s9] ω = .nx [.val (L hs), .own (.lst (goodD G)), s2, .val (.int hs.length), .val (TU r), s5, .val (.dct (dD (keysR hs r))), .val (sightD hs), s8, s9] ω := by
    have out := dc_outer o (.val (L hs)) (.own (.lst (goodD G))) s2 (.val (.int hs.length)) (.val (TU r)) s5 s6 ω r [] (by simp; omega) hb
    refine (setS_ok (d := .dct (dD (keysR hs r))) (ρ' := [.val (L hs), .own (.lst (goodD G)), s2, .val (.int hs.length), .val (TU r), s5, s6, .val (sightD hs), s8, s9]) (ω' := ω) ?_).trans rfl
    have n1 : noOwn [8, 9] [.val (L hs), .own (.lst (goodD G)), s2, .val (.int hs.length), .val (TU r), s5, s6, .val (sightD hs), s8, s9] = true := by simp [noOwn, h8, h9]
    have out' : loopA [8, 9] (step2K [9] (nmT 8) (itM (op2 ixD (bw 7) (bw 8))) (nmT 9) (vr 9) (kk (.bl true))) (r.map D.int) [] [.val (L hs), .own (.lst (goodD G)), s2, .val (.int hs.length), .val (TU r), s5, s6, .val (sightD hs), .no, .no] ω = .ok (dD (keysR hs r)) [.val (L hs), .own (.lst (goodD G)), s2, .val (.int hs.length), .val (TU r), s5, s6, .val (sightD hs), .no, .no] ω := out
    simp only [dc2M, itM, vr, List.getElem?_cons_succ, List.getElem?_cons_zero, Out.andThen, optM, items?, n1, if_true, wipeF, List.set]
    rw [out']
    rfl
  have e2 : asB (op2 eqD (op1 lenKD (bw 6)) (bw 3)) [.val (L hs), .own (.lst (goodD G)), s2, .val (.int hs.length), .val (TU r), s5, .val (.dct (dD (keysR hs r))), .val (sightD hs), s8, s9] ω = .ok (allB hs r) [.val (L hs), .own (.lst (goodD G)), s2, .val (.int hs.length), .val (TU r), s5, .val (.dct (dD (keysR hs r))), .val (sightD hs), s8, s9] ω := by
    have q : ((((keysR hs r).length : Nat) : Int) == (hs.length : Int)) = allB hs r := by
      rw [← keys_all]
      by_cases z : (((keysR hs r).length : Nat) : Int) = (hs.length : Int)
      · rw [decide_eq_true z, beq_iff_eq.mpr z]
      · rw [decide_eq_false z, beq_false_of_ne z]
    simp only [asB, op2, op1, bw, List.getElem?_cons_succ, List.getElem?_cons_zero, Out.andThen, optM, lenKD, dD, List.length_map, eqD_int, q]
  unfold b_fewest_stations_2
  rw [seqS_nx e1]
  cases h : allB hs r with
  | true =>
    rw [h] at e2
    refine (ifS_t e2).trans ?_
    refine (appS_ok (i := 1) (ds := goodD G) (d := .tup [.int r.length, TU r]) (ρ' := [.val (L hs), .own (.lst (goodD G)), s2, .val (.int hs.length), .val (TU r), s5, .val (.dct (dD (keysR hs r))), .val (sightD hs), s8, s9]) (ω' := ω) rfl ?_ rfl (by simp [goodD]; unfold LIM; omega)).trans ?_
    · simp only [tupM, consM, nilM, op1, bw, vr, List.getElem?_cons_succ, List.getElem?_cons_zero, Out.andThen, optM, lenD, items?, List.length_map, List.length_cons, List.length_nil]
      rw [if_pos (by unfold LIM; omega)]
    · simp [goodD]
  | false =>
    rw [h] at e2
    refine (ifS_f e2).trans ?_
    simp [skipS]

theorem pDs_ints : ∀ xs : List Int, pDs (xs.map D.int) = xs.map PyData.int
  | [] => rfl
  | x :: xs => by simp only [List.map_cons, pDs, pD, pDs_ints xs]
theorem good_alike (G : List (List Int)) : alikeD (goodD G) = true := by
  unfold alikeD goodD
  simp only [Bool.and_eq_true, List.all_eq_true, List.mem_map, forall_exists_index, and_imp]
  refine ⟨?_, ?_⟩
  · rintro x r _ rfl y r' _ rfl
    simp only [pD, pDs, pDs_ints, PySem.W.alike, PySem.W.alikeAll, PySem.W.alike_ints, Bool.and_self]
  · rintro x r _ rfl
    rfl
theorem good_ok (G : List (List Int)) (n : Nat) : okDs (goodD G) (n + 2) = true := by
  unfold goodD
  refine okDs_map (fun r => ?_) G
  simp only [okD, okDs, okDs_ints, Bool.and_self]
theorem best_good {G : List (List Int)} (h : G ≠ []) : ∃ r ∈ G, minDD (.lst (goodD G)) = some (.tup [.int r.length, TU r]) := by
  cases G with
  | nil => exact absurd rfl h
  | cons r G =>
    have ok := good_ok (r :: G) 6
    have al := good_alike (r :: G)
    have e : goodD (r :: G) = D.tup [.int r.length, TU r] :: goodD G := rfl
    have m : minDD (.lst (goodD (r :: G))) = some (bestD (fun a y => ltd y a) (D.tup [.int r.length, TU r]) (goodD G)) := by
      unfold minDD bestOf items?
      simp only [e]
      rw [← e, ok, al]
      rfl
    have mem := best_mem (c := fun a y => ltd y a) (goodD G) (D.tup [.int r.length, TU r])
    rw [← e] at mem
    obtain ⟨r', h1, h2⟩ := List.mem_map.mp mem
    exact ⟨r', h1, by rw [m, h2]⟩
def goodR (hs : List Int) : List (List Int) := (subs hs.length).filter (allB hs)
theorem sees_self (h : Int → Int) (a : Int) : seesB h a a = true := by
  unfold seesB
  simp only [Int.lt_irrefl, if_false, gt_iff_lt]
  have : (a - (a + 1)).toNat = 0 := by omega
  rw [this]; rfl
theorem good_ne {hs : List Int} (o : Okh hs) : goodR hs ≠ [] := by
  have : rangeI 0 hs.length ∈ goodR hs := by
    refine List.mem_filter.mpr ⟨subs_full _, ?_⟩
    unfold allB
    rw [List.all_eq_true]
    intro g hg
    unfold covB
    rw [List.any_eq_true]
    refine ⟨g, hg, ?_⟩
    rw [List.contains_iff_mem]
    exact List.mem_filter.mpr ⟨hg, sees_self _ _⟩
  intro e
  rw [e] at this; cases this
theorem few_loop1 {n : Nat} (hn : n ≤ 7) (a0 a1 a3 a6 a7 a8 a9 : Slot) (ω : W3) : ∀ (m k : Nat) (s2 s4 : Slot), k + m = n → isOwn (some s4) = false → ∃ s2' s4', isOwn (some s4') = false ∧
    forS (nmT 2) b_fewest_stations_1 ((rangeI k m).map D.int) [a0, a1, s2, a3, s4, .val (.lst ((subs k).map TU)), a6, a7, a8, a9] ω = .nx [a0, a1, s2', a3, s4', .val (.lst ((subs n).map TU)), a6, a7, a8, a9] ω
  | 0, k, s2, s4, e, h4 => ⟨s2, s4, h4, by rw [show k = n by omega]; rfl⟩
  | m + 1, k, s2, s4, e, h4 => by
    obtain ⟨s2', s4', h4', ih⟩ := few_loop1 hn a0 a1 a3 a6 a7 a8 a9 ω m (k + 1) (.val (.int k)) s4 (by omega) h4
    refine ⟨s2', s4', h4', ?_⟩
    have er : rangeI (k : Int) (m + 1) = (k : Int) :: rangeI ((k + 1 : Nat) : Int) m := by
      unfold rangeI
      rw [List.range_succ_eq_map, List.map_cons, List.map_map]
      refine congr (congrArg _ (by omega)) (List.map_congr_left fun i _ => ?_)
      simp only [Function.comp]; omega
    rw [er, List.map_cons]
    refine (forS_nx (d := .int (k : Int)) (ρ' := [a0, a1, .val (.int k), a3, s4, .val (.lst ((subs k).map TU)), a6, a7, a8, a9]) rfl ?_).trans ih
    have st := subs_step (i := 5) (c := 4) (v := 2) (ρ := [a0, a1, .val (.int k), a3, s4, .val (.lst ((subs k).map TU)), a6, a7, a8, a9]) (ω := ω) (k := k) (by omega) rfl rfl (by simp) h4 (by decide) (by decide)
    exact setS_ok st
theorem few_loop2 {hs : List Int} (o : Okh hs) (s2 s5 s8 s9 : Slot) (h8 : isOwn (some s8) = false) (h9 : isOwn (some s9) = false) (ω : W3) : ∀ (rs G : List (List Int)) (s4 s6 : Slot), (∀ r ∈ rs, r ∈ subs hs.length) → G.length + rs.length ≤ 900 → ∃ s4' s6',
    forS (nmT 4) b_fewest_stations_2 (rs.map TU) [.val (L hs), .own (.lst (goodD G)), s2, .val (.int hs.length), s4, s5, s6, .val (sightD hs), s8, s9] ω = .nx [.val (L hs), .own (.lst (goodD (G ++ rs.filter (allB hs)))), s2, .val (.int hs.length), s4', s5, s6', .val (sightD hs), s8, s9] ω
  | [], G, s4, s6, _, _ => ⟨s4, s6, by simp [forS]⟩
  | r :: rs, G, s4, s6, hr, hl => by
    have hl' : G.length + (rs.length + 1) ≤ 900 := hl
    obtain ⟨s4', s6', ih⟩ := few_loop2 o s2 s5 s8 s9 h8 h9 ω rs (G ++ if allB hs r then [r] else []) (.val (TU r)) (.val (.dct (dD (keysR hs r)))) (fun r' h' => hr r' (List.mem_cons_of_mem _ h')) (by
      rw [List.length_append]
      split
      · simp; omega
      · simp; omega)
    refine ⟨s4', s6', ?_⟩
    rw [List.map_cons]
    refine (forS_nx (d := TU r) (ρ' := [.val (L hs), .own (.lst (goodD G)), s2, .val (.int hs.length), .val (TU r), s5, s6, .val (sightD hs), s8, s9]) rfl (few_step o (hr r List.mem_cons_self) G (by omega) s2 s5 s6 s8 s9 h8 h9 ω)).trans ?_
    rw [ih, List.filter_cons]
    cases allB hs r <;> simp
theorem rows_ok {hs : List Int} (o : Okh hs) {c i h : Nat} {ρ : Fr} {ω : W3} (hi : ρ[i]? = some (.val (.int hs.length))) (hh : ρ[h]? = some (.val (L hs))) (hc : c < ρ.length) (hn : isOwn ρ[c]? = false) (hhc : c ≠ h) :
    lcM [c] (rng1M (bw i)) (nmT c) yesT (callM fM_seen_from 2 (consM (vr h) (consM (vr c) nilM))) ρ ω = .ok ((rangeI 0 hs.length).map fun q => TU (seenL hs q)) ρ ω := by
  have hl7 := o.len
  have r : rgOk (hs.length : Int) = true := rgOk_small (by omega) (by omega)
  have hb : bw i ρ ω = .ok (.int hs.length) ρ ω := by unfold bw; rw [hi]
  have e := lc1_map (c := c) (it := rng1M (bw i)) (te := callM fM_seen_from 2 (consM (vr h) (consM (vr c) nilM))) (ρ := ρ) (ω := ω) (ds := (rangeI 0 hs.length).map D.int) (fun d => match d with | .int p => TU (seenL hs p) | _ => .non)
    (by simp only [rng1M, hb, Out.andThen, optM, r, if_true, Int.toNat_natCast, rangeL_I]) hn hc (by rw [List.length_map, rangeI_len]; unfold LIM; omega) (fun d hd => by
      obtain ⟨p, hp, rfl⟩ := List.mem_map.mp hd
      rw [mem_rangeI] at hp
      have h1 : vr c (ρ.set c (.val (.int p))) ω = .ok (.int p) (ρ.set c (.val (.int p))) ω := by unfold vr; rw [List.getElem?_set_self hc]
      have h2 : vr h (ρ.set c (.val (.int p))) ω = .ok (L hs) (ρ.set c (.val (.int p))) ω := by unfold vr; rw [List.getElem?_set_ne hhc, hh]
      exact callM_ok (xs := [L hs, .int p]) (ω' := ω) (by simp only [consM, nilM, h1, h2, Out.andThen]) rfl (seen_eval o (by omega) (by omega) ω))
  rw [e, List.map_map]
  rfl
theorem few_eval {hs : List Int} (o : Okh hs) (ω : W3) : ∃ r, minDD (.lst (goodD (goodR hs))) = some (.tup [.int r.length, TU r]) ∧ fM_fewest_stations [L hs] ω = .ok (TU r) ω := by
  obtain ⟨r, _, hm⟩ := best_good (good_ne o)
  refine ⟨r, hm, runM_rt (ω' := ω) ?_⟩
  have hl7 := o.len
  have r1 : rgOk (hs.length : Int) = true := rgOk_small (by omega) (by omega)
  have g8 : ¬ (8 : Int) < (hs.length : Int) := by omega
  show b_fewest_stations [.val (L hs), .no, .no, .no, .no, .no, .no, .no, .no, .no] ω = _
  unfold b_fewest_stations
  rw [seqS_nx (setS_ok (f := op1 lenD (bw 0)) (d := .int hs.length) (ρ' := [.val (L hs), .no, .no, .no, .no, .no, .no, .no, .no, .no]) (ω' := ω) (by simp only [op1, bw, List.getElem?_cons_zero, Out.andThen, optM, lenD_L]))]
  simp only [List.set]
  rw [seqS_nx ((ifS_f (t := asB (op2 gtD (bw 3) (kk (.int 8)))) (ρ' := [.val (L hs), .no, .no, .val (.int hs.length), .no, .no, .no, .no, .no, .no]) (ω' := ω) (by simp only [asB, op2, bw, kk, List.getElem?_cons_succ, List.getElem?_cons_zero, Out.andThen, optM, gtD_i, decide_eq_false g8])).trans skipS_eq)]
  have e7 := rows_ok o (c := 8) (i := 3) (h := 0) (ρ := [.val (L hs), .no, .no, .val (.int hs.length), .no, .no, .no, .no, .no, .no]) (ω := ω) rfl rfl (by simp) rfl (by decide)
  rw [seqS_nx (asgS_ok (d := .tup [.lst [.tup []], sightD hs]) (ρ' := [.val (L hs), .no, .no, .val (.int hs.length), .no, .no, .no, .no, .no, .no]) (ω' := ω) (tupM_ok (consM_ok (frz_ok (lstF_ok (consM_ok (tupM_ok nilM_eq (lim2 (by simp))) nilM_eq) (lim2 (by simp)))) (consM_ok (frz_ok e7) nilM_eq)) (lim2 (by simp))) (ρ'' := [.val (L hs), .no, .no, .val (.int hs.length), .no, .val (.lst ((subs 0).map TU)), .no, .val (sightD hs), .no, .no]) rfl)]
  obtain ⟨t2, t4, h4, e1⟩ := few_loop1 (n := hs.length) hl7 (.val (L hs)) .no (.val (.int hs.length)) .no (.val (sightD hs)) .no .no ω hs.length 0 .no .no (by omega) rfl
  rw [seqS_nx ((forM_ok (ds := (rangeI 0 hs.length).map D.int) (ρ' := [.val (L hs), .no, .no, .val (.int hs.length), .no, .val (.lst ((subs 0).map TU)), .no, .val (sightD hs), .no, .no]) (ω' := ω) (by simp only [rng1M, bw, List.getElem?_cons_succ, List.getElem?_cons_zero, Out.andThen, optM, r1, if_true, Int.toNat_natCast, rangeL_I])).trans e1)]
  rw [seqS_nx (ownS_ok (fl := lstF nilM) (ds := []) (ρ' := [.val (L hs), .no, t2, .val (.int hs.length), t4, .val (.lst ((subs hs.length).map TU)), .no, .val (sightD hs), .no, .no]) (ω' := ω) (by simp [lstF, nilM, Out.andThen]))]
  have hp := pow_le hl7
  obtain ⟨u4, u6, e2⟩ := few_loop2 o t2 (.val (.lst ((subs hs.length).map TU))) .no .no rfl rfl ω (subs hs.length) [] t4 .no (fun r h => h) (by rw [subs_len]; simp; omega)
  rw [seqS_nx ((forM_ok (ds := (subs hs.length).map TU) (ρ' := [.val (L hs), .own (.lst []), t2, .val (.int hs.length), t4, .val (.lst ((subs hs.length).map TU)), .no, .val (sightD hs), .no, .no]) (ω' := ω) (by simp only [itM, vr, List.set, List.getElem?_cons_succ, List.getElem?_cons_zero, Out.andThen, optM, items?])).trans e2)]
  refine rtS_ok (ρ' := [.val (L hs), .own (.lst (goodD (goodR hs))), t2, .val (.int hs.length), u4, .val (.lst ((subs hs.length).map TU)), u6, .val (sightD hs), .no, .no]) ?_
  have ix : ixD (.tup [.int r.length, TU r]) (.int 1) = some (TU r) := ixD_at rfl (by decide) rfl
  have e3 : goodD ([] ++ (subs hs.length).filter (allB hs)) = goodD (goodR hs) := rfl
  simp only [op2, op1, bw, kk, List.getElem?_cons_succ, List.getElem?_cons_zero, Out.andThen, optM, e3, hm, ix]

/-! ### the line -/
theorem chain_at {h : Int → Int} {n : Int} : ∀ (s : List Int), Chain h n s → ∀ (i : Nat) (h1 : i + 1 < s.length), Edge h n s[i + 1] s[i]
  | [], _, i, h1 => by simp at h1
  | [b], _, i, h1 => by simp at h1
  | b :: a :: r, c, 0, _ => c.1
  | b :: a :: r, c, i + 1, h1 => chain_at (a :: r) c.2 i (by simp at h1 ⊢; omega)
theorem chain_end {h : Int → Int} {n : Int} : ∀ (s : List Int), Chain h n s → ∃ (h1 : 0 < s.length), s[s.length - 1] = 0
  | [], c => by simp [Chain] at c
  | [b], c => by simp only [Chain, List.cons.injEq, and_true] at c; exact ⟨by simp, by simp [c]⟩
  | b :: a :: r, c => by
    obtain ⟨h1, h2⟩ := chain_end (a :: r) c.2
    refine ⟨by simp, ?_⟩
    simpa using h2
theorem rev_at {s : List Int} {i : Int} (h0 : 0 ≤ i) (h1 : i < s.length) : ∃ (h2 : s.length - 1 - i.toNat < s.length), at' s.reverse i = s[s.length - 1 - i.toNat] := by
  have h3 : i.toNat < s.reverse.length := by simp; omega
  refine ⟨by omega, ?_⟩
  unfold at'
  rw [List.getD_eq_getElem?_getD, List.getElem?_eq_getElem h3, Option.getD_some, List.getElem_reverse]
structure LineOk (h : Int → Int) (n : Nat) (ln : List Int) : Prop where
  pos : 0 < ln.length
  len : ln.length ≤ n
  z : at' ln 0 = 0
  e : at' ln (ln.length - 1) = n - 1
  bd : ∀ i : Int, 0 ≤ i → i < ln.length → 0 ≤ at' ln i ∧ at' ln i < n
  edge : ∀ i : Int, 1 ≤ i → i < ln.length → Edge h n (at' ln (i - 1)) (at' ln i)
theorem line_ok {hs : List Int} (o : Okh hs) : LineOk (at' hs) hs.length (stk (at' hs) hs.length).reverse := by
  have hp := o.pos
  obtain ⟨m, hm⟩ : ∃ m, hs.length = m + 1 := ⟨hs.length - 1, by omega⟩
  obtain ⟨r, e, c⟩ := stk_chain (at' hs) m
  obtain ⟨bd, ln⟩ := stk_bd (at' hs) (m + 1)
  rw [hm]
  generalize hs' : stk (at' hs) (m + 1) = s at *
  obtain ⟨p, last⟩ := chain_end s c
  have em : ((m + 1 : Nat) : Int) = (m : Int) + 1 := by omega
  refine ⟨by simpa using p, by simpa using ln, ?_, ?_, fun i h0 h1 => ?_, fun i h0 h1 => ?_⟩
  · obtain ⟨h2, e2⟩ := rev_at (s := s) (i := 0) (by omega) (by omega)
    rw [e2]
    simpa using last
  · obtain ⟨h2, e2⟩ := rev_at (s := s) (i := (s.reverse.length : Int) - 1) (by simp; omega) (by simp; omega)
    rw [e2]
    have z : s.length - 1 - ((s.reverse.length : Int) - 1).toNat = 0 := by simp
    simp only [z]
    subst e
    simp
  · have h1' : i < s.length := by simpa using h1
    obtain ⟨h2, e2⟩ := rev_at (s := s) (i := i) (by omega) (by omega)
    rw [e2]
    exact bd _ (List.getElem_mem _)
  · have h1' : i < s.length := by simpa using h1
    obtain ⟨h2, e2⟩ := rev_at (s := s) (i := i) (by omega) (by omega)
    obtain ⟨h3, e3⟩ := rev_at (s := s) (i := i - 1) (by omega) (by omega)
    rw [e2, e3, em]
    have ii : s.length - 1 - (i - 1).toNat = (s.length - 1 - i.toNat) + 1 := by omega
    have := chain_at s c (s.length - 1 - i.toNat) (by omega)
    simp only [ii]
    exact this
theorem edge_sees {h : Int → Int} {n a b : Int} (e : Edge h n a b) : seesB h a b = true := by
  have ab := e.lt
  unfold seesB
  rw [if_neg (show ¬ b < a by omega), if_pos (show b > a by omega), List.all_eq_true]
  intro k hk
  rw [mem_rangeI] at hk
  have := e.str k (by omega) (by omega)
  unfold inWay
  rw [decide_eq_false (by omega)]; rfl
/-! ### draws -/
theorem roll_call {d : Nat} {m : Int} (h0 : 0 < m) (h1 : m < 1073741824) {ρ : Fr} (hd : ρ[d]? = some (.val (.tok 0))) (ω : W3) : ∃ v ω', callM fM_n_law_roll 2 (consM (vr d) (consM (kk (.int m)) (nilM))) ρ ω = .ok (.int v) ρ ω' ∧ 0 ≤ v ∧ v < m := by
  obtain ⟨v, ω', e, b1, b2⟩ := roll_eval m h0 h1 ω
  have hv : vr d ρ ω = .ok (.tok 0) ρ ω := by unfold vr; rw [hd]
  exact ⟨v, ω', callM_ok (xs := [.tok 0, .int m]) (ω' := ω) (consM_ok hv (consM_ok rfl nilM_eq)) rfl e, b1, b2⟩
theorem ints_back : ∀ {xs : List D} {p : Int → Prop}, (∀ x ∈ xs, ∃ v, x = .int v ∧ p v) → ∃ is : List Int, xs = is.map D.int ∧ ∀ v ∈ is, p v
  | [], _, _ => ⟨[], rfl, by simp⟩
  | x :: xs, p, h => by
    obtain ⟨v, rfl, hv⟩ := h x List.mem_cons_self
    obtain ⟨is, rfl, h2⟩ := ints_back (xs := xs) fun y hy => h y (List.mem_cons_of_mem _ hy)
    exact ⟨v :: is, rfl, fun w hw => by rcases List.mem_cons.mp hw with rfl | hw; exact hv; exact h2 w hw⟩
theorem rolls_ok {c d : Nat} {m : Int} (h0 : 0 < m) (h1 : m < 1073741824) {it : EM (List D)} {ρ : Fr} {ω ω1 : W3} {ds : List D} (h : it ρ ω = .ok ds ρ ω1) (hd : ρ[d]? = some (.val (.tok 0))) (hn : isOwn ρ[c]? = false) (hc : c < ρ.length) (hcd : c ≠ d) (hl : ds.length ≤ LIM) :
    ∃ (is : List Int) (ω2 : W3), lcM [c] it (nmT c) yesT (callM fM_n_law_roll 2 (consM (vr d) (consM (kk (.int m)) (nilM)))) ρ ω = .ok (is.map D.int) ρ ω2 ∧ is.length = ds.length ∧ ∀ v ∈ is, 0 ≤ v ∧ v < m := by
  have ss : ∀ (x y : Slot), (ρ.set c x).set c y = ρ.set c y := fun x y => List.set_set ..
  obtain ⟨xs, ω2, e, hp, hlen⟩ := compL_roll (vs := [c]) (t := nmT c) (te := callM fM_n_law_roll 2 (consM (vr d) (consM (kk (.int m)) (nilM)))) (ρ := wipeF [c] ρ) (fun x => ∃ v, x = .int v ∧ 0 ≤ v ∧ v < m) ds [] ω1 (fun x _ ω => by
    obtain ⟨v, ω', e, b⟩ := roll_call (d := d) (ρ := ρ.set c (.val x)) h0 h1 (by rw [List.getElem?_set_ne hcd]; exact hd) ω
    exact ⟨ρ.set c (.val x), by simp only [nmT, wipeF, ss], _, _, ω', e, ⟨v, rfl, b⟩, by simp only [wipeF, ss]⟩) (by simpa using hl)
  obtain ⟨is, rfl, hb⟩ := ints_back hp
  refine ⟨is, ω2, ?_, by simpa using hlen, hb⟩
  have e2 := lcM_ok (vs := [c]) (tm := nmT c) (tt := yesT) (te := callM fM_n_law_roll 2 (consM (vr d) (consM (kk (.int m)) (nilM)))) (xs := is.map D.int) (ρ'' := wipeF [c] ρ) (ω'' := ω2) h (by simp [noOwn, hn]) (by simpa using e)
  rw [e2]
  have : restF [c] ρ (wipeF [c] ρ) = ρ := by
    simp only [restF, wipeF, ss]
    rw [List.getD_eq_getElem?_getD, List.getElem?_eq_getElem hc]
    simp
  rw [this]

/-! ### the turn -/
def rowsD (hs : List Int) : D := .lst ((rangeI 0 hs.length).map fun q => L (seenL hs q))
theorem rows_okD (hs : List Int) : okD (rowsD hs) 8 = true := by
  unfold rowsD
  simp only [okD]
  exact okDs_map (fun q => okD_L _ 6) _
theorem rng_ok {hs : List Int} (o : Okh hs) {i : Nat} {ρ : Fr} {ω : W3} (hi : ρ[i]? = some (.val (.int hs.length))) : rng1M (bw i) ρ ω = .ok ((rangeI 0 hs.length).map D.int) ρ ω := by
  have hl7 := o.len
  have r : rgOk (hs.length : Int) = true := rgOk_small (by omega) (by omega)
  have hb : bw i ρ ω = .ok (.int hs.length) ρ ω := by unfold bw; rw [hi]
  simp only [rng1M, hb, Out.andThen, optM, r, if_true, Int.toNat_natCast, rangeL_I]
section
variable {hs : List Int} (o : Okh hs) (ω : W3)
include o
/-- S3: rows -/
theorem law_rows (s0 s1 s2 s3 s4 s6 s7 s9 s10 s11 s14 s15 : Slot) :
    lcM [12] (rng1M (bw 8)) (nmT 12) (yesT) (frz (lcM [13] (rng1M (bw 8)) (nmT 13) (asB (callM fM_n_law_sees 3 (consM (vr 5) (consM (vr 12) (consM (vr 13) (nilM)))))) (vr 13))) [s0, s1, s2, s3, s4, .val (L hs), s6, s7, .val (.int hs.length), s9, s10, s11, .no, .no, s14, s15] ω
      = .ok ((rangeI 0 hs.length).map fun q => L (seenL hs q)) [s0, s1, s2, s3, s4, .val (L hs), s6, s7, .val (.int hs.length), s9, s10, s11, .no, .no, s14, s15] ω := by
  have hl7 := o.len
  have e := lc1_map (c := 12) (it := rng1M (bw 8)) (te := frz (lcM [13] (rng1M (bw 8)) (nmT 13) (asB (callM fM_n_law_sees 3 (consM (vr 5) (consM (vr 12) (consM (vr 13) (nilM)))))) (vr 13))) (ρ := [s0, s1, s2, s3, s4, .val (L hs), s6, s7, .val (.int hs.length), s9, s10, s11, .no, .no, s14, s15]) (ω := ω) (fun d => match d with | .int p => L (seenL hs p) | _ => .non)
    (rng_ok o rfl) rfl (by simp) (by rw [List.length_map, rangeI_len]; exact lim2 (by omega)) (fun d hd => by
      obtain ⟨p, hp, rfl⟩ := List.mem_map.mp hd
      rw [mem_rangeI] at hp
      refine frz_ok ?_
      exact lc1_filter (c := 13) (is := rangeI 0 hs.length) (fun g => seesB (at' hs) p g) (rng_ok o rfl) rfl (by simp) (by rw [rangeI_len]; exact lim2 (by omega)) (fun g hg => by
        rw [mem_rangeI] at hg
        refine asB_ok (callM_ok (xs := [L hs, .int p, .int g]) (ω' := ω) rfl rfl (sees_eval o (by omega) (by omega) (by omega) (by omega) ω))) (fun g _ => rfl))
  rw [e, List.map_map]
  rfl
/-- S4: the program's rows -/
theorem prog_rows (s0 s1 s2 s3 s4 s6 s7 s9 s10 s11 s13 s14 s15 : Slot) :
    lcM [12] (rng1M (bw 8)) (nmT 12) (yesT) (frz (opF1 items? (callM fM_seen_from 2 (consM (vr 5) (consM (vr 12) (nilM)))))) [s0, s1, s2, s3, s4, .val (L hs), s6, s7, .val (.int hs.length), s9, s10, s11, .no, s13, s14, s15] ω
      = .ok ((rangeI 0 hs.length).map fun q => L (seenL hs q)) [s0, s1, s2, s3, s4, .val (L hs), s6, s7, .val (.int hs.length), s9, s10, s11, .no, s13, s14, s15] ω := by
  have hl7 := o.len
  have e := lc1_map (c := 12) (it := rng1M (bw 8)) (te := frz (opF1 items? (callM fM_seen_from 2 (consM (vr 5) (consM (vr 12) (nilM)))))) (ρ := [s0, s1, s2, s3, s4, .val (L hs), s6, s7, .val (.int hs.length), s9, s10, s11, .no, s13, s14, s15]) (ω := ω) (fun d => match d with | .int p => L (seenL hs p) | _ => .non)
    (rng_ok o rfl) rfl (by simp) (by rw [List.length_map, rangeI_len]; exact lim2 (by omega)) (fun d hd => by
      obtain ⟨p, hp, rfl⟩ := List.mem_map.mp hd
      rw [mem_rangeI] at hp
      refine frz_ok ?_
      have ec : callM fM_seen_from 2 (consM (vr 5) (consM (vr 12) (nilM))) [s0, s1, s2, s3, s4, .val (L hs), s6, s7, .val (.int hs.length), s9, s10, s11, .val (.int p), s13, s14, s15] ω = .ok (TU (seenL hs p)) [s0, s1, s2, s3, s4, .val (L hs), s6, s7, .val (.int hs.length), s9, s10, s11, .val (.int p), s13, s14, s15] ω := callM_ok (xs := [L hs, .int p]) (ω' := ω) rfl rfl (seen_eval o (by omega) (by omega) ω)
      show opF1 items? _ [s0, s1, s2, s3, s4, .val (L hs), s6, s7, .val (.int hs.length), s9, s10, s11, .val (.int p), s13, s14, s15] ω = _
      unfold opF1
      rw [ec]
      rfl)
  rw [e, List.map_map]
  rfl
theorem rows_at {p : Int} (h0 : 0 ≤ p) (h1 : p < hs.length) : ixD (rowsD hs) (.int p) = some (L (seenL hs p)) := sight_at h0 h1 (f := L) (fun q => seenL hs q)
/-- S8: one edge -/
theorem law_edge {ln : List Int} (lo : LineOk (at' hs) hs.length ln) {i : Int} (i1 : 1 ≤ i) (i2 : i < ln.length) (s0 s1 s2 s3 s4 s9 s11 s12 s13 s15 : Slot) :
    b_law_1 [s0, s1, s2, s3, s4, .val (L hs), .val (.int i), .val (TU ln), .val (.int hs.length), s9, .val (rowsD hs), s11, s12, s13, .no, s15] ω = .nx [s0, .val (.int (at' ln (i - 1))), .val (.int (at' ln i)), s3, s4, .val (L hs), .val (.int i), .val (TU ln), .val (.int hs.length), s9, .val (rowsD hs), s11, s12, s13, .no, s15] ω := by
  have hl7 := o.len
  have ed := lo.edge i i1 i2
  obtain ⟨a0, a1⟩ := lo.bd (i - 1) (by omega) (by omega)
  obtain ⟨b0, b1⟩ := lo.bd i (by omega) i2
  have xa : ixD (TU ln) (.int (i - 1)) = some (.int (at' ln (i - 1))) := ixD_T (by omega) (by omega)
  have xb : ixD (TU ln) (.int i) = some (.int (at' ln i)) := ixD_T (by omega) (by omega)
  generalize at' ln (i - 1) = a at *
  generalize at' ln i = b at *
  unfold b_law_1
  rw [seqS_nx (asgS_ok (d := .tup [.int a, .int b]) (ρ' := [s0, s1, s2, s3, s4, .val (L hs), .val (.int i), .val (TU ln), .val (.int hs.length), s9, .val (rowsD hs), s11, s12, s13, .no, s15]) (ω' := ω)
    (tupM_ok (consM_ok (ρ' := [s0, s1, s2, s3, s4, .val (L hs), .val (.int i), .val (TU ln), .val (.int hs.length), s9, .val (rowsD hs), s11, s12, s13, .no, s15]) (ω' := ω) (by simp only [op2, bw, kk, List.getElem?_cons_succ, List.getElem?_cons_zero, Out.andThen, optM, subD_i, xa]) (consM_ok (ρ' := [s0, s1, s2, s3, s4, .val (L hs), .val (.int i), .val (TU ln), .val (.int hs.length), s9, .val (rowsD hs), s11, s12, s13, .no, s15]) (ω' := ω) (by simp only [op2, bw, kk, List.getElem?_cons_succ, List.getElem?_cons_zero, Out.andThen, optM, xb]) nilM_eq)) (lim2 (by simp)))
    (ρ'' := [s0, .val (.int a), .val (.int b), s3, s4, .val (L hs), .val (.int i), .val (TU ln), .val (.int hs.length), s9, .val (rowsD hs), s11, s12, s13, .no, s15]) rfl)]
  have va := at_val o a0 a1
  have vb := at_val o b0 b1
  have ef := lc1_filter (c := 14) (it := rng1M (bw 8)) (te := vr 14) (tt := asB (op2 gtD (op2 mulD (op2 ixD (bw 5) (bw 14)) (op2 subD (bw 2) (bw 1))) (op2 addD (op2 mulD (op2 ixD (bw 5) (bw 1)) (op2 subD (bw 2) (bw 1))) (op2 mulD (op2 subD (op2 ixD (bw 5) (bw 2)) (op2 ixD (bw 5) (bw 1))) (op2 subD (bw 14) (bw 1)))))) (ρ := [s0, .val (.int a), .val (.int b), s3, s4, .val (L hs), .val (.int i), .val (TU ln), .val (.int hs.length), s9, .val (rowsD hs), s11, s12, s13, .no, s15]) (ω := ω) (is := rangeI 0 hs.length) (fun _ => false) (rng_ok o rfl) rfl (by simp) (by rw [rangeI_len]; exact lim2 (by omega)) (fun j hj => by
      rw [mem_rangeI] at hj
      have m1 : cMul (at' hs j) (b - a) = true := cMul_small (by omega) (by omega)
      have m2 : cMul (at' hs a) (b - a) = true := cMul_small (by omega) (by omega)
      have m3 : cMul (at' hs b - at' hs a) (j - a) = true := cMul_small (by omega) (by omega)
      have q := ed.all j (by omega) (by omega)
      have nq : ¬ at' hs a * (b - a) + (at' hs b - at' hs a) * (j - a) < at' hs j * (b - a) := by omega
      simp only [List.set, asB, op2, bw, List.getElem?_cons_succ, List.getElem?_cons_zero, Out.andThen, optM, ixD_L (show 0 ≤ j by omega) (show j < hs.length by omega), ixD_L a0 a1, ixD_L b0 b1, subD_i, mulD_i m1, mulD_i m2, mulD_i m3, addD_i, gtD_i, decide_eq_false nq]) (fun j _ => rfl)
  have e0 : (rangeI 0 hs.length).filter (fun _ => false) = [] := by simp
  rw [e0] at ef
  refine (ifS_f (ρ' := [s0, .val (.int a), .val (.int b), s3, s4, .val (L hs), .val (.int i), .val (TU ln), .val (.int hs.length), s9, .val (rowsD hs), s11, s12, s13, .no, s15]) (ω' := ω) ?_).trans skipS_eq
  simp only [asB, op2, frz_ok ef, frz_ok (lstF_ok nilM_eq (lim2 (by simp))), Out.andThen, optM, List.map_nil, neD_nil (ds := []) rfl, List.isEmpty_nil, Bool.not_true]
end

section
variable {hs : List Int} (o : Okh hs) (ω : W3)
include o
/-- S7: each place of the line sees the next -/
theorem law_next {ln : List Int} (lo : LineOk (at' hs) hs.length ln) (s0 s1 s2 s3 s4 s9 s11 s12 s13 s14 s15 : Slot) :
    lcM [6] (rng2M (kk (.int 1)) (op1 lenD (bw 7))) (nmT 6) (asB (op2 notInD (op2 ixD (bw 7) (bw 6)) (op2 ixD (bw 10) (op2 ixD (bw 7) (op2 subD (bw 6) (kk (.int 1))))))) (vr 6) [s0, s1, s2, s3, s4, .val (L hs), .no, .val (TU ln), .val (.int hs.length), s9, .val (rowsD hs), s11, s12, s13, s14, s15] ω = .ok [] [s0, s1, s2, s3, s4, .val (L hs), .no, .val (TU ln), .val (.int hs.length), s9, .val (rowsD hs), s11, s12, s13, s14, s15] ω := by
  have hl7 := o.len
  have ll := lo.len
  have lp := lo.pos
  have r1 : rgOk 1 = true := rgOk_small (by omega) (by omega)
  have r2 : rgOk (ln.length : Int) = true := rgOk_small (by omega) (by omega)
  have lt : lenD (TU ln) = some (.int ln.length) := by simp [lenD, items?]
  have ef := lc1_filter (c := 6) (it := rng2M (kk (.int 1)) (op1 lenD (bw 7))) (te := vr 6) (tt := asB (op2 notInD (op2 ixD (bw 7) (bw 6)) (op2 ixD (bw 10) (op2 ixD (bw 7) (op2 subD (bw 6) (kk (.int 1))))))) (ρ := [s0, s1, s2, s3, s4, .val (L hs), .no, .val (TU ln), .val (.int hs.length), s9, .val (rowsD hs), s11, s12, s13, s14, s15]) (ω := ω) (is := rangeI 1 ((ln.length : Int) - 1).toNat) (fun _ => false)
    (by simp only [rng2M, kk, op1, bw, List.getElem?_cons_succ, List.getElem?_cons_zero, Out.andThen, optM, lt, r1, r2, Bool.and_self, if_true, rangeL_I]) rfl (by simp) (by rw [rangeI_len]; exact lim2 (by omega)) (fun i hi => by
      rw [mem_rangeI] at hi
      have i2 : i < ln.length := by omega
      have ed := lo.edge i hi.1 i2
      obtain ⟨a0, a1⟩ := lo.bd (i - 1) (by omega) (by omega)
      obtain ⟨b0, b1⟩ := lo.bd i (by omega) i2
      have xa : ixD (TU ln) (.int (i - 1)) = some (.int (at' ln (i - 1))) := ixD_T (by omega) (by omega)
      have xb : ixD (TU ln) (.int i) = some (.int (at' ln i)) := ixD_T (by omega) (by omega)
      have c : (seenL hs (at' ln (i - 1))).contains (at' ln i) = true := by
        rw [List.contains_iff_mem]
        exact List.mem_filter.mpr ⟨mem_rangeI.mpr (by omega), edge_sees ed⟩
      simp only [List.set, asB, op2, bw, kk, List.getElem?_cons_succ, List.getElem?_cons_zero, Out.andThen, optM, subD_i, xa, xb, rows_at o a0 a1, notInD_L, c, Bool.not_true]) (fun j _ => rfl)
  rw [ef]
  simp
/-- S8: all edges -/
theorem law_edges {ln : List Int} (lo : LineOk (at' hs) hs.length ln) (s0 s3 s4 s9 s11 s12 s13 s15 : Slot) : ∀ (is : List Int) (s1 s2 s6 : Slot), (∀ i ∈ is, 1 ≤ i ∧ i < ln.length) → ∃ s1' s2' s6',
    forS (nmT 6) b_law_1 (is.map D.int) [s0, s1, s2, s3, s4, .val (L hs), s6, .val (TU ln), .val (.int hs.length), s9, .val (rowsD hs), s11, s12, s13, .no, s15] ω = .nx [s0, s1', s2', s3, s4, .val (L hs), s6', .val (TU ln), .val (.int hs.length), s9, .val (rowsD hs), s11, s12, s13, .no, s15] ω
  | [], s1, s2, s6, _ => ⟨s1, s2, s6, rfl⟩
  | i :: is, s1, s2, s6, h => by
    obtain ⟨i1, i2⟩ := h i List.mem_cons_self
    obtain ⟨t1, t2, t6, ih⟩ := law_edges lo s0 s3 s4 s9 s11 s12 s13 s15 is (.val (.int (at' ln (i - 1)))) (.val (.int (at' ln i))) (.val (.int i)) fun j hj => h j (List.mem_cons_of_mem _ hj)
    exact ⟨t1, t2, t6, (forS_nx (d := .int i) rfl (law_edge o ω lo i1 i2 s0 s1 s2 s3 s4 s9 s11 s12 s13 s15)).trans ih⟩
/-- S10: the sets -/
theorem law_sets (s0 s1 s2 s3 s4 s5 s7 s8 s10 s12 s13 s14 s15 : Slot) : ∀ (m k : Nat) (s6 : Slot), k + m = hs.length → ∃ s6',
    forS (nmT 6) b_law_2 ((rangeI k m).map D.int) [s0, s1, s2, s3, s4, s5, s6, s7, s8, .no, s10, .val (.lst ((subs k).map TU)), s12, s13, s14, s15] ω = .nx [s0, s1, s2, s3, s4, s5, s6', s7, s8, .no, s10, .val (.lst ((subs hs.length).map TU)), s12, s13, s14, s15] ω
  | 0, k, s6, e => ⟨s6, by rw [show k = hs.length by omega]; rfl⟩
  | m + 1, k, s6, e => by
    have hl7 := o.len
    obtain ⟨s6', ih⟩ := law_sets s0 s1 s2 s3 s4 s5 s7 s8 s10 s12 s13 s14 s15 m (k + 1) (.val (.int k)) (by omega)
    refine ⟨s6', ?_⟩
    have er : rangeI (k : Int) (m + 1) = (k : Int) :: rangeI ((k + 1 : Nat) : Int) m := by
      unfold rangeI
      rw [List.range_succ_eq_map, List.map_cons, List.map_map]
      refine congr (congrArg _ (by omega)) (List.map_congr_left fun i _ => ?_)
      simp only [Function.comp]; omega
    rw [er, List.map_cons]
    refine (forS_nx (d := .int (k : Int)) (ρ' := [s0, s1, s2, s3, s4, s5, .val (.int k), s7, s8, .no, s10, .val (.lst ((subs k).map TU)), s12, s13, s14, s15]) rfl ?_).trans ih
    have st := subs_step (i := 11) (c := 9) (v := 6) (ρ := [s0, s1, s2, s3, s4, s5, .val (.int k), s7, s8, .no, s10, .val (.lst ((subs k).map TU)), s12, s13, s14, s15]) (ω := ω) (k := k) (by omega) rfl rfl (by simp) rfl (by decide) (by decide)
    exact setS_ok st
/-- S12: one set -/
theorem law_set {r : List Int} (hr : r ∈ subs hs.length) (G : List (List Int)) (hG : G.length ≤ 1000) (s0 s1 s2 s3 s5 s6 s7 s11 s13 s14 : Slot) :
    b_law_3 [s0, s1, s2, s3, .own (.lst (goodD G)), s5, s6, s7, .val (.int hs.length), .val (TU r), .val (rowsD hs), s11, .no, s13, s14, .no] ω = .nx [s0, s1, s2, s3, .own (.lst (goodD (G ++ if allB hs r then [r] else []))), s5, s6, s7, .val (.int hs.length), .val (TU r), .val (rowsD hs), s11, .no, s13, s14, .no] ω := by
  have hl7 := o.len
  obtain ⟨hl, hb⟩ := subs_bd _ r hr
  have nl : okD (.lst ([] : List D)) 8 = true := rfl
  have inner : ∀ g : Int, lcM [12] (itM (bw 9)) (nmT 12) (asB (op2 inD (bw 15) (op2 ixD (bw 10) (bw 12)))) (vr 12) [s0, s1, s2, s3, .own (.lst (goodD G)), s5, s6, s7, .val (.int hs.length), .val (TU r), .val (rowsD hs), s11, .no, s13, s14, .val (.int g)] ω
      = .ok ((r.filter fun p => (seenL hs p).contains g).map D.int) [s0, s1, s2, s3, .own (.lst (goodD G)), s5, s6, s7, .val (.int hs.length), .val (TU r), .val (rowsD hs), s11, .no, s13, s14, .val (.int g)] ω := fun g =>
    lc1_filter (c := 12) (is := r) (fun p => (seenL hs p).contains g) (by simp only [itM, bw, List.getElem?_cons_succ, List.getElem?_cons_zero, Out.andThen, optM, items?]) rfl (by simp) (lim2 (by omega)) (fun p hp => by
      obtain ⟨p0, p1⟩ := hb p hp
      simp only [List.set, asB, op2, bw, List.getElem?_cons_succ, List.getElem?_cons_zero, Out.andThen, optM, rows_at o p0 p1, inD_L]) (fun p _ => rfl)
  have outer := lc1_filter (c := 15) (it := rng1M (bw 8)) (te := vr 15) (tt := asB (op2 eqD (frz (lcM [12] (itM (bw 9)) (nmT 12) (asB (op2 inD (bw 15) (op2 ixD (bw 10) (bw 12)))) (vr 12))) (frz (lstF (nilM))))) (ρ := [s0, s1, s2, s3, .own (.lst (goodD G)), s5, s6, s7, .val (.int hs.length), .val (TU r), .val (rowsD hs), s11, .no, s13, s14, .no]) (ω := ω) (is := rangeI 0 hs.length) (fun g => !covB hs r g) (rng_ok o rfl) rfl (by simp) (by rw [rangeI_len]; exact lim2 (by omega)) (fun g _ => by
      have e2 : (((r.filter fun p => (seenL hs p).contains g).map D.int)).isEmpty = !covB hs r g := by
        unfold covB
        rw [List.isEmpty_map]
        cases h : r.any fun p => (seenL hs p).contains g with
        | true =>
          obtain ⟨p, hp, hq⟩ := List.any_eq_true.mp h
          cases hf : r.filter fun p => (seenL hs p).contains g with
          | nil => rw [List.filter_eq_nil_iff] at hf; exact absurd hq (hf p hp)
          | cons _ _ => rfl
        | false =>
          have : r.filter (fun p => (seenL hs p).contains g) = [] := by
            rw [List.filter_eq_nil_iff]
            intro p hp hq
            rw [List.any_eq_false] at h
            exact h p hp hq
          rw [this]; rfl
      have e3 := eqD_nil (ds := (r.filter fun p => (seenL hs p).contains g).map D.int) (okD_L _ 7)
      simp only [List.set, asB, op2, frz_ok (inner g), frz_ok (lstF_ok nilM_eq (lim2 (by simp))), Out.andThen, optM, e3, e2]) (fun j _ => rfl)
  have e4 : (((rangeI 0 hs.length).filter fun g => !covB hs r g).map D.int).isEmpty = allB hs r := by
    rw [List.isEmpty_map]
    unfold allB
    cases h : (rangeI 0 hs.length).all fun g => covB hs r g with
    | true =>
      have : (rangeI 0 hs.length).filter (fun g => !covB hs r g) = [] := by
        rw [List.filter_eq_nil_iff]
        intro g hg
        rw [List.all_eq_true] at h
        simp [h g hg]
      rw [this]; rfl
    | false =>
      cases hf : (rangeI 0 hs.length).filter fun g => !covB hs r g with
      | nil =>
        rw [List.filter_eq_nil_iff] at hf
        have : ((rangeI 0 hs.length).all fun g => covB hs r g) = true := by
          rw [List.all_eq_true]
          intro g hg
          have := hf g hg
          simpa using this
        rw [h] at this; cases this
      | cons _ _ => rfl
  have e5 := eqD_nil (ds := ((rangeI 0 hs.length).filter fun g => !covB hs r g).map D.int) (okD_L _ 7)
  have tst : asB (op2 eqD (frz (lcM [15] (rng1M (bw 8)) (nmT 15) (asB (op2 eqD (frz (lcM [12] (itM (bw 9)) (nmT 12) (asB (op2 inD (bw 15) (op2 ixD (bw 10) (bw 12)))) (vr 12))) (frz (lstF (nilM))))) (vr 15))) (frz (lstF (nilM)))) [s0, s1, s2, s3, .own (.lst (goodD G)), s5, s6, s7, .val (.int hs.length), .val (TU r), .val (rowsD hs), s11, .no, s13, s14, .no] ω = .ok (allB hs r) [s0, s1, s2, s3, .own (.lst (goodD G)), s5, s6, s7, .val (.int hs.length), .val (TU r), .val (rowsD hs), s11, .no, s13, s14, .no] ω := by
    simp only [asB, op2, frz_ok outer, frz_ok (lstF_ok nilM_eq (lim2 (by simp))), Out.andThen, optM, e5, e4]
  unfold b_law_3
  cases h : allB hs r with
  | true =>
    rw [h] at tst
    refine (ifS_t tst).trans ?_
    refine (appS_ok (i := 4) (ds := goodD G) (d := .tup [.int r.length, TU r]) (ρ' := [s0, s1, s2, s3, .own (.lst (goodD G)), s5, s6, s7, .val (.int hs.length), .val (TU r), .val (rowsD hs), s11, .no, s13, s14, .no]) (ω' := ω) rfl ?_ rfl (by simp [goodD]; unfold LIM; omega)).trans ?_
    · refine tupM_ok (consM_ok (ρ' := [s0, s1, s2, s3, .own (.lst (goodD G)), s5, s6, s7, .val (.int hs.length), .val (TU r), .val (rowsD hs), s11, .no, s13, s14, .no]) (ω' := ω) ?_ (consM_ok rfl nilM_eq)) (lim2 (by simp))
      simp only [op1, bw, List.getElem?_cons_succ, List.getElem?_cons_zero, Out.andThen, optM, lenD, items?, List.length_map]
    · simp [goodD]
  | false =>
    rw [h] at tst
    refine (ifS_f tst).trans ?_
    simp [skipS]
theorem law_good (s0 s1 s2 s3 s5 s6 s7 s11 s13 s14 : Slot) : ∀ (rs G : List (List Int)) (s9 : Slot), (∀ r ∈ rs, r ∈ subs hs.length) → G.length + rs.length ≤ 900 → ∃ s9',
    forS (nmT 9) b_law_3 (rs.map TU) [s0, s1, s2, s3, .own (.lst (goodD G)), s5, s6, s7, .val (.int hs.length), s9, .val (rowsD hs), s11, .no, s13, s14, .no] ω = .nx [s0, s1, s2, s3, .own (.lst (goodD (G ++ rs.filter (allB hs)))), s5, s6, s7, .val (.int hs.length), s9', .val (rowsD hs), s11, .no, s13, s14, .no] ω
  | [], G, s9, _, _ => ⟨s9, by simp [forS]⟩
  | r :: rs, G, s9, hr, hl => by
    have hl' : G.length + (rs.length + 1) ≤ 900 := hl
    obtain ⟨s9', ih⟩ := law_good s0 s1 s2 s3 s5 s6 s7 s11 s13 s14 rs (G ++ if allB hs r then [r] else []) (.val (TU r)) (fun r' h' => hr r' (List.mem_cons_of_mem _ h')) (by
      rw [List.length_append]
      split
      · simp; omega
      · simp; omega)
    refine ⟨s9', ?_⟩
    rw [List.map_cons]
    refine (forS_nx (d := TU r) (ρ' := [s0, s1, s2, s3, .own (.lst (goodD G)), s5, s6, s7, .val (.int hs.length), .val (TU r), .val (rowsD hs), s11, .no, s13, s14, .no]) rfl (law_set o ω (hr r List.mem_cons_self) G (by omega) s0 s1 s2 s3 s5 s6 s7 s11 s13 s14)).trans ?_
    rw [ih, List.filter_cons]
    cases allB hs r <;> simp
end

theorem turn_ok : TurnOk 16 3 b_lawturn := by
  intro ω0
  -- the heights
  obtain ⟨v, ω1, e1, v0, v1⟩ := roll_call (d := 3) (m := 7) (by omega) (by omega) (ρ := turnF 16 3) rfl ω0
  have hr : rgOk (1 + v) = true := rgOk_small (by omega) (by omega)
  have hk : kk (D.int 1) (turnF 16 3) ω0 = .ok (.int 1) (turnF 16 3) ω0 := rfl
  have eit : rng1M (op2 addD (kk (.int 1)) (callM fM_n_law_roll 2 (consM (vr 3) (consM (kk (.int 7)) (nilM))))) (turnF 16 3) ω0 = .ok ((rangeI 0 (1 + v).toNat).map D.int) (turnF 16 3) ω1 := by
    simp only [rng1M, op2, hk, e1, Out.andThen, optM, addD_i, hr, if_true, rangeL_I]
  obtain ⟨hs, ω, e2, hlen, hval⟩ := rolls_ok (c := 6) (d := 3) (m := 7) (by omega) (by omega) eit rfl rfl (by simp [turnF]) (by decide) (by rw [List.length_map, rangeI_len]; exact lim2 (by omega))
  rw [List.length_map, rangeI_len] at hlen
  have o : Okh hs := ⟨by omega, by omega, hval⟩
  have hl7 := o.len
  obtain ⟨fr, hf, hfew⟩ := few_eval o ω
  have lo := line_ok o
  generalize hln : (stk (at' hs) hs.length).reverse = ln at lo
  have ehull := hull_eval o ω
  rw [hln] at ehull
  have ll := lo.len
  have lp := lo.pos
  have hp := pow_le hl7
  have lt : lenD (TU ln) = some (.int ln.length) := by simp [lenD, items?]
  have r1 : rgOk 1 = true := rgOk_small (by omega) (by omega)
  have r2 : rgOk (ln.length : Int) = true := rgOk_small (by omega) (by omega)
  have x0 : ixD (TU ln) (.int 0) = some (.int 0) := by rw [ixD_T (by omega) (by omega), lo.z]
  have xe : ixD (TU ln) (.int (-1)) = some (.int (hs.length - 1)) := by
    have hl0 : ((ln.length : Int) - 1).toNat < ln.length := by omega
    have := lo.e
    unfold at' at this
    rw [List.getD_eq_getElem?_getD, List.getElem?_eq_getElem hl0, Option.getD_some] at this
    refine ixD_neg (xs := ln.map D.int) rfl (by omega) (by simp; omega) ?_
    have q : (-1 + ((ln.map D.int).length : Int)).toNat = ((ln.length : Int) - 1).toNat := by simp; omega
    rw [q, List.getElem?_map, List.getElem?_eq_getElem hl0, this]
    rfl
  obtain ⟨a1, a2, a6, e8⟩ := law_edges o ω lo .no (.val (.tok 0)) .no .no .no .no .no .no (rangeI 1 ((ln.length : Int) - 1).toNat) .no .no .no (fun i hi => by rw [mem_rangeI] at hi; omega)
  obtain ⟨b6, e10⟩ := law_sets o ω .no a1 a2 (.val (.tok 0)) .no (.val (L hs)) (.val (TU ln)) (.val (.int hs.length)) (.val (rowsD hs)) .no .no .no .no hs.length 0 a6 (by omega)
  obtain ⟨c9, e12⟩ := law_good o ω .no a1 a2 (.val (.tok 0)) (.val (L hs)) b6 (.val (TU ln)) (.val (.lst ((subs hs.length).map TU))) .no .no (subs hs.length) [] .no (fun r h => h) (by rw [subs_len]; simp; omega)
  have ix : ixD (.tup [.int fr.length, TU fr]) (.int 1) = some (TU fr) := ixD_at rfl (by decide) rfl
  refine .inl ⟨[.no, a1, a2, .val (.tok 0), .own (.lst (goodD (goodR hs))), .val (L hs), b6, .val (TU ln), .val (.int hs.length), c9, .val (rowsD hs), .val (.lst ((subs hs.length).map TU)), .no, .no, .no, .no], ω, ?_, rfl⟩
  unfold b_lawturn
  rw [seqS_nx (setS_ok (frz_ok e2))]
  show seqS _ _ [.no, .no, .no, .val (.tok 0), .no, .val (L hs), .no, .no, .no, .no, .no, .no, .no, .no, .no, .no] ω = _
  rw [seqS_nx (setS_ok (f := op1 lenD (bw 5)) (d := .int hs.length) (ρ' := [.no, .no, .no, .val (.tok 0), .no, .val (L hs), .no, .no, .no, .no, .no, .no, .no, .no, .no, .no]) (ω' := ω) (by simp only [op1, bw, List.getElem?_cons_succ, List.getElem?_cons_zero, Out.andThen, optM, lenD_L]))]
  simp only [List.set]
  rw [seqS_nx (setS_ok (frz_ok (law_rows o ω .no .no .no (.val (.tok 0)) .no .no .no .no .no .no .no .no)))]
  show seqS _ _ [.no, .no, .no, .val (.tok 0), .no, .val (L hs), .no, .no, .val (.int hs.length), .no, .val (rowsD hs), .no, .no, .no, .no, .no] ω = _
  have p4 := frz_ok (prog_rows o ω .no .no .no (.val (.tok 0)) .no .no .no .no (.val (rowsD hs)) .no .no .no .no)
  have ne4 : neD (.lst ((rangeI 0 hs.length).map fun q => L (seenL hs q))) (rowsD hs) = some (.bl false) := neD_self (rows_okD hs)
  rw [seqS_nx ((ifS_f (ρ' := [.no, .no, .no, .val (.tok 0), .no, .val (L hs), .no, .no, .val (.int hs.length), .no, .val (rowsD hs), .no, .no, .no, .no, .no]) (ω' := ω) (by
    simp only [asB, op2, p4, Out.andThen, bw, List.getElem?_cons_succ, List.getElem?_cons_zero, optM, ne4])).trans skipS_eq)]
  rw [seqS_nx (setS_ok (callM_ok (fl := consM (vr 5) nilM) (n := 1) (xs := [L hs]) (ρ' := [.no, .no, .no, .val (.tok 0), .no, .val (L hs), .no, .no, .val (.int hs.length), .no, .val (rowsD hs), .no, .no, .no, .no, .no]) (ω' := ω) rfl rfl ehull))]
  show seqS _ _ [.no, .no, .no, .val (.tok 0), .no, .val (L hs), .no, .val (TU ln), .val (.int hs.length), .no, .val (rowsD hs), .no, .no, .no, .no, .no] ω = _
  rw [seqS_nx ((ifS_f (ρ' := [.no, .no, .no, .val (.tok 0), .no, .val (L hs), .no, .val (TU ln), .val (.int hs.length), .no, .val (rowsD hs), .no, .no, .no, .no, .no]) (ω' := ω) (by
    simp only [orT, asB, op2, op1, bw, kk, Out.andThen, List.getElem?_cons_succ, List.getElem?_cons_zero, optM, x0, xe, negD_i, neD_int, subD_i, BEq.rfl, Bool.not_true])).trans skipS_eq)]
  have p7 := frz_ok (law_next o ω lo .no .no .no (.val (.tok 0)) .no .no .no .no .no .no .no)
  rw [seqS_nx ((ifS_f (ρ' := [.no, .no, .no, .val (.tok 0), .no, .val (L hs), .no, .val (TU ln), .val (.int hs.length), .no, .val (rowsD hs), .no, .no, .no, .no, .no]) (ω' := ω) (by
    simp only [asB, op2, p7, frz_ok (lstF_ok nilM_eq (lim2 (by simp))), Out.andThen, optM, neD_nil (ds := []) rfl, List.isEmpty_nil, Bool.not_true])).trans skipS_eq)]
  rw [seqS_nx ((forM_ok (ds := (rangeI 1 ((ln.length : Int) - 1).toNat).map D.int) (ρ' := [.no, .no, .no, .val (.tok 0), .no, .val (L hs), .no, .val (TU ln), .val (.int hs.length), .no, .val (rowsD hs), .no, .no, .no, .no, .no]) (ω' := ω) (by
    simp only [rng2M, kk, op1, bw, List.getElem?_cons_succ, List.getElem?_cons_zero, Out.andThen, optM, lt, r1, r2, Bool.and_self, if_true, rangeL_I])).trans e8)]
  rw [seqS_nx (setS_ok (f := frz (lstF (consM (tupM nilM) nilM))) (d := .lst ((subs 0).map TU)) (ρ' := [.no, a1, a2, .val (.tok 0), .no, .val (L hs), a6, .val (TU ln), .val (.int hs.length), .no, .val (rowsD hs), .no, .no, .no, .no, .no]) (ω' := ω) (frz_ok (lstF_ok (consM_ok (tupM_ok nilM_eq (lim2 (by simp))) nilM_eq) (lim2 (by simp [subs])))))]
  simp only [List.set]
  rw [seqS_nx ((forM_ok (ds := (rangeI 0 hs.length).map D.int) (ρ' := [.no, a1, a2, .val (.tok 0), .no, .val (L hs), a6, .val (TU ln), .val (.int hs.length), .no, .val (rowsD hs), .val (.lst ((subs 0).map TU)), .no, .no, .no, .no]) (ω' := ω) (rng_ok o rfl)).trans e10)]
  rw [seqS_nx (ownS_ok (fl := lstF nilM) (ds := []) (ρ' := [.no, a1, a2, .val (.tok 0), .no, .val (L hs), b6, .val (TU ln), .val (.int hs.length), .no, .val (rowsD hs), .val (.lst ((subs hs.length).map TU)), .no, .no, .no, .no]) (ω' := ω) (lstF_ok nilM_eq (lim2 (by simp))))]
  simp only [List.set]
  rw [seqS_nx ((forM_ok (ds := (subs hs.length).map TU) (ρ' := [.no, a1, a2, .val (.tok 0), .own (.lst []), .val (L hs), b6, .val (TU ln), .val (.int hs.length), .no, .val (rowsD hs), .val (.lst ((subs hs.length).map TU)), .no, .no, .no, .no]) (ω' := ω) (by
    simp only [itM, vr, List.set, List.getElem?_cons_succ, List.getElem?_cons_zero, Out.andThen, optM, items?])).trans e12)]
  have e3 : goodD ([] ++ (subs hs.length).filter (allB hs)) = goodD (goodR hs) := rfl
  rw [e3]
  have ec : callM fM_fewest_stations 1 (consM (vr 5) nilM) [.no, a1, a2, .val (.tok 0), .own (.lst (goodD (goodR hs))), .val (L hs), b6, .val (TU ln), .val (.int hs.length), c9, .val (rowsD hs), .val (.lst ((subs hs.length).map TU)), .no, .no, .no, .no] ω = .ok (TU fr) [.no, a1, a2, .val (.tok 0), .own (.lst (goodD (goodR hs))), .val (L hs), b6, .val (TU ln), .val (.int hs.length), c9, .val (rowsD hs), .val (.lst ((subs hs.length).map TU)), .no, .no, .no, .no] ω := callM_ok (xs := [L hs]) (ω' := ω) rfl rfl hfew
  refine (ifS_f (ρ' := [.no, a1, a2, .val (.tok 0), .own (.lst (goodD (goodR hs))), .val (L hs), b6, .val (TU ln), .val (.int hs.length), c9, .val (rowsD hs), .val (.lst ((subs hs.length).map TU)), .no, .no, .no, .no]) (ω' := ω) ?_).trans skipS_eq
  simp only [asB, op2, ec, op1, bw, kk, List.getElem?_cons_succ, List.getElem?_cons_zero, Out.andThen, optM, hf, ix, neD_self (okD_TU fr 7)]

theorem all_mk {l : PySem.W.OpenLaw} {w : World} {K : PySem.W.Frag} {h : Heap} {mg : Str → Option Value} {fa f0 f1 f2 f3 f4 f5 f6 f7 f8 C0 : Addr} (X : K.In h) (GN : h.Ns mainGlobals mg) (hfa : mg "law" = some (.ref fa))
    {od0 an0 od1 an1 od2 an2 od3 an3 od4 an4 od5 an5 od6 an6 od7 an7 od8 an8 : Option Addr} {sl0 sl1 sl2 sl3 sl4 sl5 sl6 sl7 sl8 : Array (Option Value)} {oc0 kV0 dc0 pm0 cd0 ct0 oc1 kV1 dc1 pm1 cd1 ct1 oc2 kV2 dc2 pm2 cd2 ct2 oc3 kV3 dc3 pm3 cd3 ct3 oc4 kV4 dc4 pm4 cd4 ct4 oc5 kV5 dc5 pm5 cd5 ct5 oc6 kV6 dc6 pm6 cd6 ct6 oc7 kV7 dc7 pm7 cd7 ct7 oc8 kV8 dc8 pm8 cd8 ct8 : Value}
    (a0 : PySem.W.nsIn K mainGlobals "seen_from" = some (some (.ref f0))) (l0 : K.lookup f0 = some ⟨oc0, od0, .func (PySem.W.fnOf "seen_from" "seen_from" (defArgs st_seen_from) (defBody st_seen_from) (defScope st_seen_from) .none kV0 dc0 pm0 an0 cd0 ct0), sl0⟩) (c0 : PySem.W.codeIn K cd0 "seen_from" = true) (k0 : PySem.W.keepIn K (.ref f0) = true)
    (a1 : PySem.W.nsIn K mainGlobals "turn" = some (some (.ref f1))) (l1 : K.lookup f1 = some ⟨oc1, od1, .func (PySem.W.fnOf "turn" "turn" (defArgs st_turn) (defBody st_turn) (defScope st_turn) .none kV1 dc1 pm1 an1 cd1 ct1), sl1⟩) (c1 : PySem.W.codeIn K cd1 "turn" = true) (k1 : PySem.W.keepIn K (.ref f1) = true)
    (a2 : PySem.W.nsIn K mainGlobals "hull" = some (some (.ref f2))) (l2 : K.lookup f2 = some ⟨oc2, od2, .func (PySem.W.fnOf "hull" "hull" (defArgs st_hull) (defBody st_hull) (defScope st_hull) .none kV2 dc2 pm2 an2 cd2 ct2), sl2⟩) (c2 : PySem.W.codeIn K cd2 "hull" = true) (k2 : PySem.W.keepIn K (.ref f2) = true)
    (a3 : PySem.W.nsIn K mainGlobals "fewest_stations" = some (some (.ref f3))) (l3 : K.lookup f3 = some ⟨oc3, od3, .func (PySem.W.fnOf "fewest_stations" "fewest_stations" (defArgs st_fewest_stations) (defBody st_fewest_stations) (defScope st_fewest_stations) .none kV3 dc3 pm3 an3 cd3 ct3), sl3⟩) (c3 : PySem.W.codeIn K cd3 "fewest_stations" = true) (k3 : PySem.W.keepIn K (.ref f3) = true)
    (a4 : PySem.W.nsIn K mainGlobals "_law_dice" = some (some (.ref f4))) (l4 : K.lookup f4 = some ⟨oc4, od4, .func (PySem.W.fnOf "_law_dice" "_law_dice" (defArgs st_n_law_dice) (defBody st_n_law_dice) (defScope st_n_law_dice) .none kV4 dc4 pm4 an4 cd4 ct4), sl4⟩) (c4 : PySem.W.codeIn K cd4 "_law_dice" = true) (k4 : PySem.W.keepIn K (.ref f4) = true)
    (a5 : PySem.W.nsIn K mainGlobals "_law_roll" = some (some (.ref f5))) (l5 : K.lookup f5 = some ⟨oc5, od5, .func (PySem.W.fnOf "_law_roll" "_law_roll" (defArgs st_n_law_roll) (defBody st_n_law_roll) (defScope st_n_law_roll) .none kV5 dc5 pm5 an5 cd5 ct5), sl5⟩) (c5 : PySem.W.codeIn K cd5 "_law_roll" = true) (k5 : PySem.W.keepIn K (.ref f5) = true)
    (a6 : PySem.W.nsIn K mainGlobals "_law_rounds" = some (some (.ref f6))) (l6 : K.lookup f6 = some ⟨oc6, od6, .func (PySem.W.fnOf "_law_rounds" "_law_rounds" (defArgs st_n_law_rounds) (defBody st_n_law_rounds) (defScope st_n_law_rounds) .none kV6 dc6 pm6 an6 cd6 ct6), sl6⟩) (c6 : PySem.W.codeIn K cd6 "_law_rounds" = true) (k6 : PySem.W.keepIn K (.ref f6) = true)
    (a7 : PySem.W.nsIn K mainGlobals "_law_sees" = some (some (.ref f7))) (l7 : K.lookup f7 = some ⟨oc7, od7, .func (PySem.W.fnOf "_law_sees" "_law_sees" (defArgs st_n_law_sees) (defBody st_n_law_sees) (defScope st_n_law_sees) .none kV7 dc7 pm7 an7 cd7 ct7), sl7⟩) (c7 : PySem.W.codeIn K cd7 "_law_sees" = true) (k7 : PySem.W.keepIn K (.ref f7) = true)
    (a8 : PySem.W.nsIn K mainGlobals "law" = some (some (.ref f8))) (l8 : K.lookup f8 = some ⟨oc8, od8, .func (PySem.W.fnOf "law" "law" (defArgs st_law) (defBody st_law) (defScope st_law) .none kV8 dc8 pm8 an8 cd8 ct8), sl8⟩) (c8 : PySem.W.codeIn K cd8 "law" = true) (k8 : PySem.W.keepIn K (.ref f8) = true)
    (xg0 : PySem.W.nsIn K mainGlobals "NoWay" = some (some (.ref C0))) (xq0 : PySem.W.excIn K C0 [.type "ValueError", .type "Exception", .type "BaseException", .type "object"] "ValueError.__new__" = true) (xk0 : PySem.W.keepIn K (.ref C0) = true) (xb0 : PySem.W.subIn K (.ref C0) (.type "BaseException") = some true) (xt0 : PySem.W.typeIn K (.ref C0) = some (.type "type"))
    (z_abs : PySem.W.nsIn K mainGlobals "abs" = some none)
    (z_all : PySem.W.nsIn K mainGlobals "all" = some none)
    (z_any : PySem.W.nsIn K mainGlobals "any" = some none)
    (z_dict : PySem.W.nsIn K mainGlobals "dict" = some none)
    (z_enumerate : PySem.W.nsIn K mainGlobals "enumerate" = some none)
    (z_int : PySem.W.nsIn K mainGlobals "int" = some none)
    (z_isinstance : PySem.W.nsIn K mainGlobals "isinstance" = some none)
    (z_len : PySem.W.nsIn K mainGlobals "len" = some none)
    (z_list : PySem.W.nsIn K mainGlobals "list" = some none)
    (z_max : PySem.W.nsIn K mainGlobals "max" = some none)
    (z_min : PySem.W.nsIn K mainGlobals "min" = some none)
    (z_range : PySem.W.nsIn K mainGlobals "range" = some none)
    (z_reversed : PySem.W.nsIn K mainGlobals "reversed" = some none)
    (z_sorted : PySem.W.nsIn K mainGlobals "sorted" = some none)
    (z_sum : PySem.W.nsIn K mainGlobals "sum" = some none)
    (z_tuple : PySem.W.nsIn K mainGlobals "tuple" = some none)
    (z_zip : PySem.W.nsIn K mainGlobals "zip" = some none) :
    ∃ fd : FuncData, (∀ (s : Shared) (v : Value), BindsTo s fd ⟨[v], []⟩ [("script", v)]) ∧ ∀ base : Heap, K.In base → base.Ns mainGlobals mg → FnOk l.prog w K mg base (L2.CX l.prog w) 3 fa fd ["script"] (spLaw K []) := by
  have e := hfa.symm.trans (PySem.W.mg_of X GN a8)
  cases e
  let G : G0 := { K := K, tk := fun pd n => if n = 0 then pd.map V.ref else none, T := [], cls := fun n => if n = 0 then C0 else fa }
  have hG : ∀ pd, G.tk pd 0 = pd.map V.ref := fun _ => rfl
  have hb : Bn mg := ⟨PySem.W.mg_none_of X GN z_abs, PySem.W.mg_none_of X GN z_all, PySem.W.mg_none_of X GN z_any, PySem.W.mg_none_of X GN z_dict, PySem.W.mg_none_of X GN z_enumerate, PySem.W.mg_none_of X GN z_int, PySem.W.mg_none_of X GN z_isinstance, PySem.W.mg_none_of X GN z_len, PySem.W.mg_none_of X GN z_list, PySem.W.mg_none_of X GN z_max, PySem.W.mg_none_of X GN z_min, PySem.W.mg_none_of X GN z_range, PySem.W.mg_none_of X GN z_reversed, PySem.W.mg_none_of X GN z_sorted, PySem.W.mg_none_of X GN z_sum, PySem.W.mg_none_of X GN z_tuple, PySem.W.mg_none_of X GN z_zip⟩
  have x_NoWay : OwnX K mg "NoWay" (G.cls 0) := ⟨PySem.W.mg_of X GN xg0, xq0, xk0, xb0, xt0⟩
  refine ⟨PySem.W.fnOf "law" "law" (defArgs st_law) (defBody st_law) (defScope st_law) .none kV8 dc8 pm8 an8 cd8 ct8, fun s v => .of_eq rfl, fun base _ _ => ?_⟩
  have F0 := fun_mk (st := st_seen_from) l0 c0 k0
  have b0 := F0.binds (ps := ["heights", "place"]) fun _ _ _ _ _ _ us hl => match us, hl with | [_, _], _ => rfl
  have k_seen_from : Kn l.prog w K mg base G "seen_from" 1 2 fM_seen_from := mkKn (ok_seen_from F0 hb hG) (PySem.W.mg_of X GN a0) k0 b0
  have F1 := fun_mk (st := st_turn) l1 c1 k1
  have b1 := F1.binds (ps := ["heights", "a", "b", "c"]) fun _ _ _ _ _ _ us hl => match us, hl with | [_, _, _, _], _ => rfl
  have k_turn : Kn l.prog w K mg base G "turn" 1 4 fM_turn := mkKn (ok_turn F1 hb hG) (PySem.W.mg_of X GN a1) k1 b1
  have F2 := fun_mk (st := st_hull) l2 c2 k2
  have b2 := F2.binds (ps := ["heights"]) fun _ _ _ _ _ _ us hl => match us, hl with | [_], _ => rfl
  have k_hull : Kn l.prog w K mg base G "hull" 2 1 fM_hull := mkKn (ok_hull F2 hb hG k_turn) (PySem.W.mg_of X GN a2) k2 b2
  have F3 := fun_mk (st := st_fewest_stations) l3 c3 k3
  have b3 := F3.binds (ps := ["heights"]) fun _ _ _ _ _ _ us hl => match us, hl with | [_], _ => rfl
  have k_fewest_stations : Kn l.prog w K mg base G "fewest_stations" 2 1 fM_fewest_stations := mkKn (ok_fewest_stations F3 hb hG k_seen_from x_NoWay) (PySem.W.mg_of X GN a3) k3 b3
  have F4 := fun_mk (st := st_n_law_dice) l4 c4 k4
  have b4 := F4.binds (ps := ["cell"]) fun _ _ _ _ _ _ us hl => match us, hl with | [_], _ => rfl
  have k_n_law_dice : Kn l.prog w K mg base G "_law_dice" 1 1 fM_n_law_dice := mkKn (ok_n_law_dice F4 hb hG) (PySem.W.mg_of X GN a4) k4 b4
  have F5 := fun_mk (st := st_n_law_roll) l5 c5 k5
  have b5 := F5.binds (ps := ["dice", "many"]) fun _ _ _ _ _ _ us hl => match us, hl with | [_, _], _ => rfl
  have k_n_law_roll : Kn l.prog w K mg base G "_law_roll" 1 2 fM_n_law_roll := mkKn (ok_n_law_roll F5 hb hG) (PySem.W.mg_of X GN a5) k5 b5
  have F6 := fun_mk (st := st_n_law_rounds) l6 c6 k6
  have b6 := F6.binds (ps := ["script", "most"]) fun _ _ _ _ _ _ us hl => match us, hl with | [_, _], _ => rfl
  have kr : KnR l.prog w K mg base G "_law_rounds" 2 := mkKnR (ok_n_law_rounds F6 hb hG k_n_law_dice) (PySem.W.mg_of X GN a6) k6 b6
  have F7 := fun_mk (st := st_n_law_sees) l7 c7 k7
  have b7 := F7.binds (ps := ["heights", "one", "two"]) fun _ _ _ _ _ _ us hl => match us, hl with | [_, _, _], _ => rfl
  have k_n_law_sees : Kn l.prog w K mg base G "_law_sees" 1 3 fM_n_law_sees := mkKn (ok_n_law_sees F7 hb hG) (PySem.W.mg_of X GN a7) k7 b7
  have F8 := fun_mk (st := st_law) l8 c8 k8
  exact ok_law F8 hb hG kr k_n_law_roll k_n_law_sees k_seen_from k_hull k_fewest_stations turn_ok
theorem walk {l : PySem.W.OpenLaw} {q : Program} {loose : List Str} {XP : (Str → Option Value) → Heap → Prop} {YP : World → Heap → Prop} {d : DefRec} {K : Params → PySem.W.Frag} (hn : l.most = some 63) (hdf : d.params.defaults = []) (hY : ∀ (w : World) (h : Heap), YP w h → (K w.params).In h)
    (F : ∀ (w : World) (mg : Str → Option Value) (fa : Addr) (h : Heap), (K w.params).In h → h.Ns mainGlobals mg → mg d.name = some (.ref fa) →
      ∃ fd : FuncData, (∀ (s : Shared) (u : Value), BindsTo s fd ⟨[u], []⟩ [("script", u)]) ∧ ∀ base : Heap, (K w.params).In base → base.Ns mainGlobals mg → FnOk l.prog w (K w.params) mg base (L2.CX l.prog w) 3 fa fd ["script"] (spLaw (K w.params) [])) :
    PySem.W.WalkO q loose XP YP l.row.toRowW d [] (fun f vs => PySem.call f vs) :=
  L2.walk_of (n := 63) (k := 3) (x := "script") (CX := fun w => L2.CX l.prog w) (sp := fun w => spLaw (K w.params) []) hn (by decide) hdf ⟨rfl, by decide, by decide⟩ hY F (fun _ _ a ns hl _ hS => ⟨a, ns, rfl, hS, hl, (by intro P hP; cases hP), fun _ => rfl⟩) hCX0
end L2.Fl.k06
open PySem PySem.W PyProof.Rows
set_option maxRecDepth 100000 in
set_option maxHeartbeats 0 in
theorem PySem.Challenge.cw_quarryline_k06_stations_in_sight_holds : PySem.Challenge.rw_quarryline_k06_stations_in_sight.Holds := by
  w_on; o_law; k_head; (case hw => w_witness2)
  k_fill
  refine L2.Fl.k06.walk (l := PySem.Challenge.rw_quarryline_k06_stations_in_sight) rfl rfl (fun w h Y => PySem.W.kIn_of Y) ?F
  case F =>
    intro w mg fa h KX G hmg
    refine' L2.Fl.k06.all_mk KX G hmg ?a0 ?l0 ?c0 ?k0 ?a1 ?l1 ?c1 ?k1 ?a2 ?l2 ?c2 ?k2 ?a3 ?l3 ?c3 ?k3 ?a4 ?l4 ?c4 ?k4 ?a5 ?l5 ?c5 ?k5 ?a6 ?l6 ?c6 ?k6 ?a7 ?l7 ?c7 ?k7 ?a8 ?l8 ?c8 ?k8 ?xg0 ?xq0 ?xk0 ?xb0 ?xt0 ?z_abs ?z_all ?z_any ?z_dict ?z_enumerate ?z_int ?z_isinstance ?z_len ?z_list ?z_max ?z_min ?z_range ?z_reversed ?z_sorted ?z_sum ?z_tuple ?z_zip
    (case a0 => k_is)
    (case l0 => k_is)
    (case c0 => k_is)
    (case k0 => k_is)
    (case a1 => k_is)
    (case l1 => k_is)
    (case c1 => k_is)
    (case k1 => k_is)
    (case a2 => k_is)
    (case l2 => k_is)
    (case c2 => k_is)
    (case k2 => k_is)
    (case a3 => k_is)
    (case l3 => k_is)
    (case c3 => k_is)
    (case k3 => k_is)
    (case a4 => k_is)
    (case l4 => k_is)
    (case c4 => k_is)
    (case k4 => k_is)
    (case a5 => k_is)
    (case l5 => k_is)
    (case c5 => k_is)
    (case k5 => k_is)
    (case a6 => k_is)
    (case l6 => k_is)
    (case c6 => k_is)
    (case k6 => k_is)
    (case a7 => k_is)
    (case l7 => k_is)
    (case c7 => k_is)
    (case k7 => k_is)
    (case a8 => k_is)
    (case l8 => k_is)
    (case c8 => k_is)
    (case k8 => k_is)
    (case xg0 => k_is)
    (case xq0 => k_exc)
    (case xk0 => k_is)
    (case xb0 => k_is)
    (case xt0 => k_is)
    (case z_abs => k_is)
    (case z_all => k_is)
    (case z_any => k_is)
    (case z_dict => k_is)
    (case z_enumerate => k_is)
    (case z_int => k_is)
    (case z_isinstance => k_is)
    (case z_len => k_is)
    (case z_list => k_is)
    (case z_max => k_is)
    (case z_min => k_is)
    (case z_range => k_is)
    (case z_reversed => k_is)
    (case z_sorted => k_is)
    (case z_sum => k_is)
    (case z_tuple => k_is)
    (case z_zip => k_is)

