import PyProof.Rows.All
import Wide.All
import OpenK.AllK
import Wide.FinOn
import HandS.ForMost
import HandS.ForExc
import HandS.Walk
import HandS.AnyAll
import HandS.Lambda
import HandS.TupAny
import HandS.TupMul
import HandS.Deep
import HandS.TupLe
import KE.DataMinMax
import HandS.DictComp
import HandS.WordsDict
import HandS.TupLen
import HandS.ExcOwn
import PyProof.GenArm
import PyProof.GenQ
import PyProof.ConsumeS
import HandS.GenList
import PyProof.SumAny
import HandS.TryMany
import HandS.Style
import HandS.Zip
import HandS.Rev
import KE.GoesMore
import KE.GoesEnum
import KE.SortData
import HandS.SortKw
import PyProof.TupleOfSeq
import PyProof.Transfer
import HandS.RevTup
import HandS.EndOwn
import HandS.Conv
import KE.DataFind
import KE.KMinKey
import KE.SortKeyHeap
import KE.KTupSum
import PyProof.Rows.ChunkEnd
import HandS.ExcInit
import KE.KExcSuper
import KE.KSuper
import HandS.TupSets
import PyProof.MaxThree
import KE.KDictDisplayH
import HandS.IsInst
import HandS.ExcIs
import KE.KExcIs
import PySem.Challenge.RW_quarryline_k20_refusals_apart
set_option Elab.async false
set_option linter.all false
set_option maxRecDepth 100000
set_option maxHeartbeats 8000000
namespace L2.Fl
open PySem PySem.Spec PyProof.Rows

/-! ### plain data -/
inductive D where
  | non | bl (b : Bool) | int (i : Int) | str (s : Str) | tok (n : Nat) | tup (xs : List D) | ptup (xs : List D) | lst (xs : List D) | dct (kvs : List (D × D)) | dctT (kvs : List (D × D)) | dctF (kvs : List (D × D)) | dctG (kvs : List (D × D))
deriving Inhabited

abbrev W3 := Int × Int × Int
inductive Slot where
  | no | val (d : D) | own (d : D)
deriving Inhabited
abbrev Fr := List Slot
inductive Out (α : Type) where
  | ok (a : α) (ρ : Fr) (ω : W3) | exc (c : Nat) (ω : W3) | bad
abbrev EM (α : Type) := Fr → W3 → Out α
inductive SO where
  | nx (ρ : Fr) (ω : W3) | rt (d : D) (ω : W3) | bk (ρ : Fr) (ω : W3) | ct (ρ : Fr) (ω : W3) | exc (c : Nat) (ω : W3) | bad
abbrev SM := Fr → W3 → SO
inductive FO where
  | ok (d : D) (ω : W3) | exc (c : Nat) (ω : W3) | bad
abbrev FM := List D → W3 → FO

/-! ### the ground -/
/-- a def's table of code objects, and the names that its lambdas' codes bear, by their places -/
abbrev PTab := Addr × (Nat → Nat → Option Str)
def TabP (H : Hp) (p : PTab) : Prop := ∃ ps : Array Value, H p.1 = some (.tbl ps) ∧ TriplesOk ps.toList ∧ ∀ (pos : Pos) (cv : Value) (q : Str), p.2 pos.line pos.col = some q → codeAmong pos ps.toList = some cv → ∃ c, cv = .ref c ∧ H c = some (LamX.CodeO c q)
theorem TabP.g {H : Hp} {p : PTab} (h : TabP H p) : GxR.TabG H p.1 := by
  obtain ⟨ps, a, b, _⟩ := h
  exact ⟨ps, a, b⟩
theorem TabP.nil {H : Hp} {p : PTab} (h : H p.1 = some (.tbl #[])) : TabP H p := ⟨#[], h, True.intro, fun pos cv q _ z => by simp [codeAmong] at z⟩
theorem TabP.keep {H H' : Hp} {p : PTab} (h : TabP H p) (k : ∀ b o, H b = some o → H' b = some o) : TabP H' p := by
  obtain ⟨ps, a, b, c⟩ := h
  refine ⟨ps, k _ _ a, b, fun pos cv q e1 e2 => ?_⟩
  obtain ⟨c', e3, e4⟩ := c pos cv q e1 e2
  exact ⟨c', e3, k _ _ e4⟩
theorem TabP.upd {H : Hp} {t : PTab} {p : Addr} {o u : HO} (h : TabP H t) (hu : H p = some u) (hf : ∀ ps, u ≠ .tbl ps) (hx : ∀ phi, u ≠ .ext phi) : TabP (upd H p o) t := by
  obtain ⟨ps, a, b, c⟩ := h
  refine ⟨ps, ?_, b, fun pos cv q e1 e2 => ?_⟩
  · rw [upd_ne]
    · exact a
    · intro z; rw [z, hu] at a; cases a; exact hf ps rfl
  · obtain ⟨c', e3, e4⟩ := c pos cv q e1 e2
    refine ⟨c', e3, ?_⟩
    rw [upd_ne]
    · exact e4
    · intro z; rw [z, hu] at e4; exact hx _ (Option.some.inj e4)
structure Gd where
  K : PySem.W.Frag
  pd : Option Addr
  tk : Nat → Option V
  T : List PTab
def Fix (o : HO) : Prop := ∀ ps, o ≠ .tbl ps
structure Ext (g : Gd) (H H' : Hp) : Prop where
  keep : ∀ p o, H p = some o → g.pd ≠ some p → Fix o → H' p = some o
  dom : ∀ p, H' p = none → H p = none
theorem Ext.refl {g : Gd} {H : Hp} : Ext g H H := ⟨fun _ _ h _ _ => h, fun _ h => h⟩
theorem Ext.trans {g : Gd} {H H1 H2 : Hp} (a : Ext g H H1) (b : Ext g H1 H2) : Ext g H H2 := ⟨fun p o h n f => b.keep p o (a.keep p o h n f) n f, fun p h => a.dom p (b.dom p h)⟩
theorem fix_lst {xs : List V} : Fix (.lst xs) := fun _ h => by cases h
theorem fix_tup {xs : List V} : Fix (.tup xs) := fun _ h => by cases h
theorem fix_dK {xs : List (Key × V)} : Fix (.dK xs) := fun _ h => by cases h
theorem fix_dT {xs : List (List Key × V)} : Fix (.dT xs) := fun _ h => by cases h

def kD : Key → D
  | .inl i => .int i
  | .inr s => .str s

/-- frozen, or a tuple -/
def ZT (Z : Addr → Prop) (H : Hp) (p : Addr) : Prop := Z p ∨ ∃ vs, H p = some (.tup vs)
/-! ### data against values -/
mutual
inductive RD (tk : Nat → Option V) (Z : Addr → Prop) (H : Hp) : D → V → Prop
  | non : RD tk Z H .non .non
  | bl (b : Bool) : RD tk Z H (.bl b) (.bl b)
  | int (i : Int) : RD tk Z H (.int i) (.int i)
  | str (s : Str) : RD tk Z H (.str s) (.str s)
  | tok {n : Nat} {v : V} : tk n = some v → RD tk Z H (.tok n) v
  | tup {p : Addr} {ds : List D} {vs : List V} : H p = some (.tup vs) → RDs tk Z H ds vs → RD tk Z H (.tup ds) (.ref p)
  | ptup {p : Addr} {ds : List D} {vs : List V} {o : Obj} : Z p → H p = some (.frz o (.tup vs)) → o.dict = none → RDs tk Z H ds vs → RD tk Z H (.ptup ds) (.ref p)
  | dctF {p : Addr} {ks : List (D × D)} {kvs : List (Key × V)} {o : Obj} : Z p → H p = some (.frz o (.dK kvs)) → RK tk Z H ks kvs → RD tk Z H (.dctF ks) (.ref p)
  | dctG {p : Addr} {ks : List (D × D)} {kvs : List (List Key × V)} {o : Obj} : Z p → H p = some (.frz o (.dT kvs)) → RT tk Z H ks kvs → RD tk Z H (.dctG ks) (.ref p)
  | obj {p : Addr} {d : D} : Z p → RO tk Z H d p → RD tk Z H d (.ref p)
inductive RO (tk : Nat → Option V) (Z : Addr → Prop) (H : Hp) : D → Addr → Prop
  | lst {p : Addr} {ds : List D} {vs : List V} : H p = some (.lst vs) → RDs tk Z H ds vs → RO tk Z H (.lst ds) p
  | dK {p : Addr} {ks : List (D × D)} {kvs : List (Key × V)} : H p = some (.dK kvs) → RK tk Z H ks kvs → RO tk Z H (.dct ks) p
  | dT {p : Addr} {ks : List (D × D)} {kvs : List (List Key × V)} : H p = some (.dT kvs) → RT tk Z H ks kvs → RO tk Z H (.dctT ks) p
inductive RDs (tk : Nat → Option V) (Z : Addr → Prop) (H : Hp) : List D → List V → Prop
  | nil : RDs tk Z H [] []
  | cons {d : D} {v : V} {ds : List D} {vs : List V} : RD tk Z H d v → RDs tk Z H ds vs → RDs tk Z H (d :: ds) (v :: vs)
inductive RK (tk : Nat → Option V) (Z : Addr → Prop) (H : Hp) : List (D × D) → List (Key × V) → Prop
  | nil : RK tk Z H [] []
  | cons {k : Key} {d : D} {v : V} {ds : List (D × D)} {vs : List (Key × V)} : RD tk Z H d v → RK tk Z H ds vs → RK tk Z H ((kD k, d) :: ds) ((k, v) :: vs)
inductive RT (tk : Nat → Option V) (Z : Addr → Prop) (H : Hp) : List (D × D) → List (List Key × V) → Prop
  | nil : RT tk Z H [] []
  | cons {k : List Key} {d : D} {v : V} {ds : List (D × D)} {vs : List (List Key × V)} : RD tk Z H d v → RT tk Z H ds vs → RT tk Z H ((.tup (k.map kD), d) :: ds) ((k, v) :: vs)
end

section
variable {tk : Nat → Option V} {Z Z' : Addr → Prop} {H H' : Hp}
mutual
theorem RD.mono (hz : ∀ p, Z p → Z' p) (hh : ∀ p o, ZT Z H p → H p = some o → H' p = some o) : ∀ {d : D} {v : V}, RD tk Z H d v → RD tk Z' H' d v
  | _, _, .non => .non
  | _, _, .bl b => .bl b
  | _, _, .int b => .int b
  | _, _, .str b => .str b
  | _, _, .tok b => .tok b
  | _, _, .tup h r => .tup (hh _ _ (.inr ⟨_, h⟩) h) (RDs.mono hz hh r)
  | _, _, .ptup z h n r => .ptup (hz _ z) (hh _ _ (.inl z) h) n (RDs.mono hz hh r)
  | _, _, .dctF z h r => .dctF (hz _ z) (hh _ _ (.inl z) h) (RK.mono hz hh r)
  | _, _, .dctG z h r => .dctG (hz _ z) (hh _ _ (.inl z) h) (RT.mono hz hh r)
  | _, _, .obj z r => .obj (hz _ z) (RO.mono hz hh (fun o h => hh _ o (.inl z) h) r)
theorem RO.mono (hz : ∀ p, Z p → Z' p) (hh : ∀ p o, ZT Z H p → H p = some o → H' p = some o) : ∀ {d : D} {p : Addr}, (∀ o, H p = some o → H' p = some o) → RO tk Z H d p → RO tk Z' H' d p
  | _, _, hp, .lst h r => .lst (hp _ h) (RDs.mono hz hh r)
  | _, _, hp, .dK h r => .dK (hp _ h) (RK.mono hz hh r)
  | _, _, hp, .dT h r => .dT (hp _ h) (RT.mono hz hh r)
theorem RDs.mono (hz : ∀ p, Z p → Z' p) (hh : ∀ p o, ZT Z H p → H p = some o → H' p = some o) : ∀ {ds : List D} {vs : List V}, RDs tk Z H ds vs → RDs tk Z' H' ds vs
  | _, _, .nil => .nil
  | _, _, .cons a b => .cons (RD.mono hz hh a) (RDs.mono hz hh b)
theorem RK.mono (hz : ∀ p, Z p → Z' p) (hh : ∀ p o, ZT Z H p → H p = some o → H' p = some o) : ∀ {ds : List (D × D)} {vs : List (Key × V)}, RK tk Z H ds vs → RK tk Z' H' ds vs
  | _, _, .nil => .nil
  | _, _, .cons a b => .cons (RD.mono hz hh a) (RK.mono hz hh b)
theorem RT.mono (hz : ∀ p, Z p → Z' p) (hh : ∀ p o, ZT Z H p → H p = some o → H' p = some o) : ∀ {ds : List (D × D)} {vs : List (List Key × V)}, RT tk Z H ds vs → RT tk Z' H' ds vs
  | _, _, .nil => .nil
  | _, _, .cons a b => .cons (RD.mono hz hh a) (RT.mono hz hh b)
end
theorem RDs.length : ∀ {ds : List D} {vs : List V}, RDs tk Z H ds vs → ds.length = vs.length
  | _, _, .nil => rfl
  | _, _, .cons _ t => congrArg (· + 1) t.length
theorem RDs.get : ∀ {ds : List D} {vs : List V} {i : Nat} {d : D}, RDs tk Z H ds vs → ds[i]? = some d → ∃ v, vs[i]? = some v ∧ RD tk Z H d v
  | _, _, _, _, .nil, e => by simp at e
  | _, _, 0, _, .cons r _, e => by simp at e; subst e; exact ⟨_, rfl, r⟩
  | _, _, i + 1, _, .cons _ t, e => by
    obtain ⟨v, h1, h2⟩ := RDs.get (i := i) t (by simpa using e)
    exact ⟨v, by simpa using h1, h2⟩
theorem RDs.get' : ∀ {ds : List D} {vs : List V} {i : Nat} {v : V}, RDs tk Z H ds vs → vs[i]? = some v → ∃ d, ds[i]? = some d ∧ RD tk Z H d v
  | _, _, _, _, .nil, e => by simp at e
  | _, _, 0, _, .cons r _, e => by simp at e; subst e; exact ⟨_, rfl, r⟩
  | _, _, i + 1, _, .cons _ t, e => by
    obtain ⟨v, h1, h2⟩ := RDs.get' (i := i) t (by simpa using e)
    exact ⟨v, by simpa using h1, h2⟩
theorem RDs.append : ∀ {ds es : List D} {vs ws : List V}, RDs tk Z H ds vs → RDs tk Z H es ws → RDs tk Z H (ds ++ es) (vs ++ ws)
  | _, _, _, _, .nil, s => s
  | _, _, _, _, .cons r t, s => .cons r (RDs.append t s)
theorem RDs.set : ∀ {ds : List D} {vs : List V} (i : Nat) {d : D} {v : V}, RD tk Z H d v → RDs tk Z H ds vs → RDs tk Z H (ds.set i d) (vs.set i v)
  | _, _, _, _, _, _, .nil => .nil
  | _, _, 0, _, _, r, .cons _ t => .cons r t
  | _, _, i + 1, _, _, r, .cons q t => .cons q (RDs.set i r t)
theorem RDs.take : ∀ {ds : List D} {vs : List V} (n : Nat), RDs tk Z H ds vs → RDs tk Z H (ds.take n) (vs.take n)
  | _, _, 0, _ => .nil
  | _, _, _ + 1, .nil => .nil
  | _, _, n + 1, .cons r t => .cons r (RDs.take n t)
theorem RDs.drop : ∀ {ds : List D} {vs : List V} (n : Nat), RDs tk Z H ds vs → RDs tk Z H (ds.drop n) (vs.drop n)
  | _, _, 0, r => r
  | _, _, _ + 1, .nil => .nil
  | _, _, n + 1, .cons r t => RDs.drop n t
theorem RDs.reverse {ds : List D} {vs : List V} (r : RDs tk Z H ds vs) : RDs tk Z H ds.reverse vs.reverse := by
  induction ds generalizing vs with
  | nil => cases r; exact .nil
  | cons d ds ih =>
    cases r with
    | cons a b =>
      rw [List.reverse_cons, List.reverse_cons]
      exact (ih b).append (.cons a .nil)
theorem RDs.ints : ∀ {is : List Int} {vs : List V}, RDs tk Z H (is.map D.int) vs → vs = is.map V.int ∨ False
  | [], _, .nil => .inl rfl
  | i :: is, _, .cons r t => by
    cases r with
    | int _ =>
      rcases RDs.ints t with e | e
      · rw [e]; exact .inl rfl
      · exact e.elim
    | obj _ ro => cases ro
theorem rds_ints : ∀ (is : List Int), RDs tk Z H (is.map D.int) (is.map V.int)
  | [] => .nil
  | i :: is => .cons (.int i) (rds_ints is)
end

/-! ### the state of a body -/
structure Good (g : Gd) (Z : Addr → Prop) (H : Hp) (ω : W3) : Prop where
  zs : ∀ p, Z p → g.pd ≠ some p ∧ ∃ o, H p = some o ∧ Fix o
  dice : ∀ q, g.pd = some q → H q = some (.lst [.int ω.1, .int ω.2.1, .int ω.2.2])
  tabs : ∀ P ∈ g.T, TabP H P

/-- an exception's dict, if it has one, is told -/
def DOk (d : Option Addr) (H : Hp) : Prop := ∀ dd, d = some dd → ∃ fs, H dd = some (.xd fs)
theorem DOk.no {H : Hp} : DOk none H := fun _ h => nomatch h
/-- what a body is given: the heap ahead, the frozen things ahead, what may be raised, what is wanted then -/
structure Bc where
  g : Gd
  H0 : Hp
  Z0 : Addr → Prop
  cls : Nat → Addr
  Ex : Nat → W3 → Prop
  E : XK
  Rz : Addr → Prop
  hE : ∀ c ω d H' Z', Ex c ω → Ext g H0 H' → Good g Z' H' ω → DOk d H' → E (.ref (cls c)) d H'

structure J (B : Bc) (Z : Addr → Prop) (ρ : Fr) (σ : St) (H : Hp) (ω : W3) : Prop where
  good : Good B.g Z H ω
  ext : Ext B.g B.H0 H
  z0 : ∀ p, B.Z0 p → Z p
  zn : ∀ p, Z p → B.Z0 p ∨ B.H0 p = none
  len : ρ.length = σ.length
  val : ∀ (i : Nat) (d : D), ρ[i]? = some (.val d) → ∃ v, σ[i]? = some (some v) ∧ RD B.g.tk Z H d v
  own : ∀ (i : Nat) (d : D), ρ[i]? = some (.own d) → ∃ p, σ[i]? = some (some (.ref p)) ∧ RO B.g.tk Z H d p ∧ ¬ Z p ∧ B.g.pd ≠ some p ∧ B.H0 p = none ∧ ¬ B.Rz p
  res : ∀ p, B.Rz p → ¬ Z p ∧ H p ≠ none
  sep : ∀ (i j : Nat) (d e : D) (p : Addr), ρ[i]? = some (.own d) → ρ[j]? = some (.own e) → σ[i]? = some (some (.ref p)) → σ[j]? = some (some (.ref p)) → i = j

theorem RO.there {tk : Nat → Option V} {Z : Addr → Prop} {H : Hp} {d : D} {p : Addr} (r : RO tk Z H d p) : ∃ o, H p = some o ∧ Fix o := by
  cases r with
  | lst h _ => exact ⟨_, h, fix_lst⟩
  | dK h _ => exact ⟨_, h, fix_dK⟩
  | dT h _ => exact ⟨_, h, fix_dT⟩

theorem RO.nt {tk : Nat → Option V} {Z : Addr → Prop} {H : Hp} {d : D} {p : Addr} (r : RO tk Z H d p) : ∀ us, H p ≠ some (.tup us) := fun us z => by
  cases r with
  | lst h _ => rw [h] at z; cases z
  | dK h _ => rw [h] at z; cases z
  | dT h _ => rw [h] at z; cases z
theorem RO.there2 {tk : Nat → Option V} {Z : Addr → Prop} {H : Hp} {d : D} {p : Addr} (r : RO tk Z H d p) : ∃ o, H p = some o ∧ Fix o ∧ ∀ phi, o ≠ .ext phi := by
  cases r with
  | lst h _ => exact ⟨_, h, fix_lst, fun _ => nofun⟩
  | dK h _ => exact ⟨_, h, fix_dK, fun _ => nofun⟩
  | dT h _ => exact ⟨_, h, fix_dT, fun _ => nofun⟩
/-- the heap grows: new objects, of which Y are frozen -/
structure Grow (g : Gd) (Z : Addr → Prop) (H : Hp) (Z' : Addr → Prop) (H' : Hp) : Prop where
  sub : ∀ p, Z p → Z' p
  new : ∀ p, Z' p → Z p ∨ (H p = none ∧ ∃ o, H' p = some o ∧ Fix o)
  keep : ∀ p o, H p = some o → H' p = some o
theorem Grow.refl {g : Gd} {Z : Addr → Prop} {H : Hp} : Grow g Z H Z H := ⟨fun _ h => h, fun _ h => .inl h, fun _ _ h => h⟩
theorem Grow.ext {g : Gd} {Z Z' : Addr → Prop} {H H' : Hp} (a : Grow g Z H Z' H') : Ext g H H' := ⟨fun p o h _ _ => a.keep p o h, fun p h => by
  cases q : H p with
  | none => rfl
  | some o => rw [a.keep p o q] at h; cases h⟩
theorem Grow.trans {g : Gd} {Z Z1 Z2 : Addr → Prop} {H H1 H2 : Hp} (a : Grow g Z H Z1 H1) (b : Grow g Z1 H1 Z2 H2) : Grow g Z H Z2 H2 :=
  ⟨fun p h => b.sub p (a.sub p h), fun p h => by
    rcases b.new p h with h | ⟨h, o, e, f⟩
    · rcases a.new p h with h | ⟨h, o, e, f⟩
      · exact .inl h
      · exact .inr ⟨h, o, b.keep p o e, f⟩
    · refine .inr ⟨?_, o, e, f⟩
      cases q : H p with
      | none => rfl
      | some u => (rw [a.keep p u q] at h; cases h), fun p o h => b.keep p o (a.keep p o h)⟩
theorem RD.grow {g : Gd} {tk : Nat → Option V} {Z Z' : Addr → Prop} {H H' : Hp} (a : Grow g Z H Z' H') {d : D} {v : V} (r : RD tk Z H d v) : RD tk Z' H' d v := r.mono a.sub fun p o _ h => a.keep p o h
theorem RDs.grow {g : Gd} {tk : Nat → Option V} {Z Z' : Addr → Prop} {H H' : Hp} (a : Grow g Z H Z' H') {d : List D} {v : List V} (r : RDs tk Z H d v) : RDs tk Z' H' d v := r.mono a.sub fun p o _ h => a.keep p o h
theorem RO.grow {g : Gd} {tk : Nat → Option V} {Z Z' : Addr → Prop} {H H' : Hp} (a : Grow g Z H Z' H') {d : D} {v : Addr} (r : RO tk Z H d v) : RO tk Z' H' d v := r.mono a.sub (fun p o _ h => a.keep p o h) fun o h => a.keep _ o h

theorem tabG_keep {H H' : Hp} {P : Addr} (h : GxR.TabG H P) (k : ∀ o, H P = some o → H' P = some o) : GxR.TabG H' P := by
  obtain ⟨ps, e, t⟩ := h
  exact ⟨ps, k _ e, t⟩

section
variable {B : Bc} {Z Z' : Addr → Prop} {ρ : Fr} {σ : St} {H H' : Hp} {ω : W3}
theorem Good.grow (h : Good B.g Z H ω) (a : Grow B.g Z H Z' H') : Good B.g Z' H' ω where
  zs := fun p z => by
    rcases a.new p z with z | ⟨z, o, e, f⟩
    · obtain ⟨n, o, e, f⟩ := h.zs p z
      exact ⟨n, o, a.keep p o e, f⟩
    · refine ⟨?_, o, e, f⟩
      intro e'
      rw [h.dice _ e'] at z; cases z
  dice := fun q e => a.keep _ _ (h.dice q e)
  tabs := fun P hP => (h.tabs P hP).keep a.keep
theorem J.grow (j : J B Z ρ σ H ω) (a : Grow B.g Z H Z' H') : J B Z' ρ σ H' ω where
  good := j.good.grow a
  ext := j.ext.trans a.ext
  z0 := fun p h => a.sub p (j.z0 p h)
  zn := fun p h => by
    rcases a.new p h with h | ⟨h, o, e, f⟩
    · exact j.zn p h
    · exact .inr (j.ext.dom p h)
  len := j.len
  val := fun i d e => by
    obtain ⟨v, h1, h2⟩ := j.val i d e
    exact ⟨v, h1, h2.grow a⟩
  own := fun i d e => by
    obtain ⟨p, h1, h2, h3, h4, h5, h6⟩ := j.own i d e
    refine ⟨p, h1, h2.grow a, fun z => ?_, h4, h5, h6⟩
    rcases a.new p z with z | ⟨z, _⟩
    · exact h3 z
    · obtain ⟨o, e, _⟩ := h2.there
      rw [e] at z; cases z
  res := fun p r => ⟨fun z => by
    rcases a.new p z with z | ⟨z, _⟩
    · exact (j.res p r).1 z
    · exact (j.res p r).2 z, fun z => (j.res p r).2 (a.ext.dom p z)⟩
  sep := j.sep
end
end L2.Fl

namespace L2.Fl
open PySem PySem.Spec PyProof.Rows

/-! ### steps -/
section
variable {g : Gd} {tk : Nat → Option V} {Z Z' : Addr → Prop} {H H' : Hp} {ω : W3}
theorem Good.kept (k : Good g Z H ω) (e : Ext g H H') : ∀ p o, ZT Z H p → H p = some o → H' p = some o := fun p o z h => by
  rcases z with z | ⟨vs, z⟩
  rotate_left
  · refine e.keep p o h (fun q => ?_) (by rw [z] at h; cases h; exact fix_tup)
    rw [k.dice p q] at z; cases z
  obtain ⟨n, o', h', f⟩ := k.zs p z
  rw [h] at h'; cases h'
  exact e.keep p o h n f
theorem Good.npd {q : Addr} (k : Good g Z H ω) (z : ZT Z H q) : g.pd ≠ some q := by
  rcases z with z | ⟨vs, z⟩
  · exact (k.zs q z).1
  · intro e
    rw [k.dice q e] at z; cases z
theorem RD.ext (k : Good g Z H ω) (zz : ∀ p, Z p → Z' p) (e : Ext g H H') {d : D} {v : V} (r : RD g.tk Z H d v) : RD g.tk Z' H' d v := r.mono zz (k.kept e)
theorem RDs.ext (k : Good g Z H ω) (zz : ∀ p, Z p → Z' p) (e : Ext g H H') {d : List D} {v : List V} (r : RDs g.tk Z H d v) : RDs g.tk Z' H' d v := r.mono zz (k.kept e)
theorem RO.ext (k : Good g Z H ω) (zz : ∀ p, Z p → Z' p) (e : Ext g H H') {d : D} {p : Addr} (np : g.pd ≠ some p) (r : RO g.tk Z H d p) : RO g.tk Z' H' d p := by
  obtain ⟨o, h, f⟩ := r.there
  exact r.mono zz (k.kept e) fun o' h' => by rw [h] at h'; cases h'; exact e.keep p o h np f
/-- a thing that may be read: frozen, or one's own -/
def BR (g : Gd) (Z : Addr → Prop) (H : Hp) (d : D) (v : V) : Prop := RD g.tk Z H d v ∨ ∃ p, v = .ref p ∧ g.pd ≠ some p ∧ RO g.tk Z H d p
theorem BR.ext (k : Good g Z H ω) (zz : ∀ p, Z p → Z' p) (e : Ext g H H') {d : D} {v : V} (r : BR g Z H d v) : BR g Z' H' d v := by
  rcases r with r | ⟨p, rfl, n, r⟩
  · exact .inl (r.ext k zz e)
  · exact .inr ⟨p, rfl, n, r.ext k zz e n⟩
theorem BR.grow (a : Grow g Z H Z' H') {d : D} {v : V} (r : BR g Z H d v) : BR g Z' H' d v := by
  rcases r with r | ⟨p, rfl, n, r⟩
  · exact .inl (r.grow a)
  · exact .inr ⟨p, rfl, n, r.grow a⟩
theorem BR.int {i : Int} {v : V} (r : BR g Z H (.int i) v) : v = .int i := by
  rcases r with r | ⟨p, rfl, n, r⟩
  · cases r with
    | int _ => rfl
    | obj _ r => cases r
  · cases r
theorem BR.bl {i : Bool} {v : V} (r : BR g Z H (.bl i) v) : v = .bl i := by
  rcases r with r | ⟨p, rfl, n, r⟩
  · cases r with
    | bl _ => rfl
    | obj _ r => cases r
  · cases r
theorem BR.non {v : V} (r : BR g Z H .non v) : v = .non := by
  rcases r with r | ⟨p, rfl, n, r⟩
  · cases r with
    | non => rfl
    | obj _ r => cases r
  · cases r
theorem BR.str {i : Str} {v : V} (r : BR g Z H (.str i) v) : v = .str i := by
  rcases r with r | ⟨p, rfl, n, r⟩
  · cases r with
    | str _ => rfl
    | obj _ r => cases r
  · cases r
theorem BR.tup {ds : List D} {v : V} (r : BR g Z H (.tup ds) v) : ∃ p vs, v = .ref p ∧ H p = some (.tup vs) ∧ RDs g.tk Z H ds vs := by
  rcases r with r | ⟨p, rfl, n, r⟩
  · cases r with
    | tup h r => exact ⟨_, _, rfl, h, r⟩
    | obj _ r => cases r
  · cases r
theorem BR.ptup {ds : List D} {v : V} (r : BR g Z H (.ptup ds) v) : ∃ p vs o, v = .ref p ∧ Z p ∧ H p = some (.frz o (.tup vs)) ∧ o.dict = none ∧ RDs g.tk Z H ds vs := by
  rcases r with r | ⟨p, rfl, n, r⟩
  · cases r with
    | ptup z h n r => exact ⟨_, _, _, rfl, z, h, n, r⟩
    | obj z r => cases r
  · cases r
theorem BR.dctF {ks : List (D × D)} {v : V} (r : BR g Z H (.dctF ks) v) : ∃ p kvs o, v = .ref p ∧ Z p ∧ H p = some (.frz o (.dK kvs)) ∧ RK g.tk Z H ks kvs := by
  rcases r with r | ⟨p, rfl, n, r⟩
  · cases r with
    | dctF z h r => exact ⟨_, _, _, rfl, z, h, r⟩
    | obj z r => cases r
  · cases r
theorem BR.dctG {ks : List (D × D)} {v : V} (r : BR g Z H (.dctG ks) v) : ∃ p kvs o, v = .ref p ∧ Z p ∧ H p = some (.frz o (.dT kvs)) ∧ RT g.tk Z H ks kvs := by
  rcases r with r | ⟨p, rfl, n, r⟩
  · cases r with
    | dctG z h r => exact ⟨_, _, _, rfl, z, h, r⟩
    | obj z r => cases r
  · cases r
theorem SqT.fz {K : PySem.W.Frag} {H : Hp} {p : Addr} {o : Obj} {vs : List V} (h : H p = some (.frz o (.tup vs))) : SqT K H p vs := .inl (.inr ⟨o, h⟩)
theorem BR.lst {ds : List D} {v : V} (r : BR g Z H (.lst ds) v) : ∃ p vs, v = .ref p ∧ H p = some (.lst vs) ∧ RDs g.tk Z H ds vs := by
  rcases r with r | ⟨p, rfl, n, r⟩
  · cases r with
    | obj z r =>
      cases r with
      | lst h r => exact ⟨_, _, rfl, h, r⟩
  · cases r with
    | lst h r => exact ⟨p, _, rfl, h, r⟩
end

/-! ### readings -/
def Out.andThen {α β : Type} (o : Out α) (k : α → Fr → W3 → Out β) : Out β :=
  match o with
  | .ok a ρ ω => k a ρ ω
  | .exc c ω => .exc c ω
  | .bad => .bad
def RdE (B : Bc) (f : EM D) : TE := fun σ H Q => ∃ Z ρ ω, J B Z ρ σ H ω ∧ match f ρ ω with
  | .ok d ρ' ω' => ∀ (Z' : Addr → Prop) (v : V) (H' : Hp), Ext B.g H H' → (∀ p, Z p → Z' p) → J B Z' ρ' σ H' ω' → RD B.g.tk Z' H' d v → Q v H'
  | .exc c ω' => B.Ex c ω'
  | .bad => False
def RdB (B : Bc) (f : EM D) : TE := fun σ H Q => ∃ Z ρ ω, J B Z ρ σ H ω ∧ match f ρ ω with
  | .ok d ρ' ω' => ∀ (Z' : Addr → Prop) (v : V) (H' : Hp), Ext B.g H H' → (∀ p, Z p → Z' p) → J B Z' ρ' σ H' ω' → BR B.g Z' H' d v → Q v H'
  | .exc c ω' => B.Ex c ω'
  | .bad => False
def RdT (B : Bc) (f : EM Bool) : TT := fun σ H Q => ∃ Z ρ ω, J B Z ρ σ H ω ∧ match f ρ ω with
  | .ok b ρ' ω' => ∀ (Z' : Addr → Prop) (H' : Hp), Ext B.g H H' → (∀ p, Z p → Z' p) → J B Z' ρ' σ H' ω' → Q b H'
  | .exc c ω' => B.Ex c ω'
  | .bad => False
def RdA (B : Bc) (f : EM (List D)) : TA := fun σ H Q => ∃ Z ρ ω, J B Z ρ σ H ω ∧ match f ρ ω with
  | .ok ds ρ' ω' => ∀ (Z' : Addr → Prop) (vs : List V) (H' : Hp), Ext B.g H H' → (∀ p, Z p → Z' p) → J B Z' ρ' σ H' ω' → RDs B.g.tk Z' H' ds vs → Q vs H'
  | .exc c ω' => B.Ex c ω'
  | .bad => False
/-- a new list, nobody's yet -/
def RdF (B : Bc) (f : EM (List D)) : TE := fun σ H Q => ∃ Z ρ ω, J B Z ρ σ H ω ∧ match f ρ ω with
  | .ok ds ρ' ω' => ∀ (Z' : Addr → Prop) (p : Addr) (vs : List V) (H' : Hp), Ext B.g H H' → (∀ p, Z p → Z' p) → J B Z' ρ' σ H' ω' → H' p = some (.lst vs) → RDs B.g.tk Z' H' ds vs → ¬ Z' p → B.g.pd ≠ some p → B.H0 p = none → ¬ B.Rz p →
      (∀ (i : Nat) (d : D), ρ'[i]? = some (.own d) → σ[i]? ≠ some (some (.ref p))) → Q (.ref p) H'
  | .exc c ω' => B.Ex c ω'
  | .bad => False

section
variable {X : Cx} {B : Bc} {e a b : Expr}
theorem PE.imp {t t' : TE} (h : PE X e t) (i : ∀ σ H Q, t' σ H Q → t σ H Q) : PE X e t' := ⟨fun pins s σ H Q I q => h.run pins s σ H Q I (i σ H Q q)⟩
theorem PT.imp {t t' : TT} (h : PT X e t) (i : ∀ σ H Q, t' σ H Q → t σ H Q) : PT X e t' := ⟨fun pins s σ H Q I q => h.run pins s σ H Q I (i σ H Q q)⟩
theorem PA.imp {es : List Expr} {t t' : TA} (h : PA X es t) (i : ∀ σ H Q, t' σ H Q → t σ H Q) : PA X es t' := ⟨fun pos pins s σ H Q I q => h.run pos pins s σ H Q I (i σ H Q q)⟩
theorem PS.imp {st : Stmt} {t t' : TS} (h : PS X st t) (i : ∀ D σ H, t' D σ H → t D σ H) : PS X st t' := ⟨fun pins s σ H D I q => h.run pins s σ H D I (i D σ H q)⟩
theorem PSs.imp {st : List Stmt} {t t' : TS} (h : PSs X st t) (i : ∀ D σ H, t' D σ H → t D σ H) : PSs X st t' := ⟨fun pins s σ H D I q => h.run pins s σ H D I (i D σ H q)⟩

/-! names -/
def vr (i : Nat) : EM D := fun ρ ω => match ρ[i]? with
  | some (.val d) => .ok d ρ ω
  | some (.own d) => .ok d (ρ.set i (.val d)) ω
  | _ => .bad
def bw (i : Nat) : EM D := fun ρ ω => match ρ[i]? with
  | some (.val d) => .ok d ρ ω
  | some (.own d) => .ok d ρ ω
  | _ => .bad
/-- one's own thing is frozen -/
theorem J.freeze {Z : Addr → Prop} {ρ : Fr} {σ : St} {H : Hp} {ω : W3} {i : Nat} {d : D} {p : Addr} (j : J B Z ρ σ H ω) (ei : ρ[i]? = some (.own d)) (es : σ[i]? = some (some (.ref p))) (ro : RO B.g.tk Z H d p) (np : B.g.pd ≠ some p) (h0 : B.H0 p = none) (nr : ¬ B.Rz p) :
    J B (fun q => Z q ∨ q = p) (ρ.set i (.val d)) σ H ω ∧ RD B.g.tk (fun q => Z q ∨ q = p) H d (.ref p) := by
  have rd : RD B.g.tk (fun q => Z q ∨ q = p) H d (.ref p) := .obj (.inr rfl) (ro.mono (fun _ z => .inl z) (fun _ _ _ h => h) fun _ h => h)
  have hi : i < ρ.length := (List.getElem?_eq_some_iff.mp ei).1
  refine ⟨⟨⟨fun q z => ?_, j.good.dice, j.good.tabs⟩, j.ext, fun q z => .inl (j.z0 q z), fun q z => ?_, by rw [List.length_set]; exact j.len, fun k e ek => ?_, fun k e ek => ?_, fun q r => ⟨fun z => ?_, (j.res q r).2⟩, fun k l e f q ek el => ?_⟩, rd⟩
  · rcases z with z | rfl
    · exact j.good.zs q z
    · obtain ⟨o, h, f⟩ := ro.there
      exact ⟨np, o, h, f⟩
  · rcases z with z | rfl
    · exact j.zn q z
    · exact .inr h0
  · by_cases hk : i = k
    · subst hk
      rw [List.getElem?_set_self hi] at ek
      cases ek
      exact ⟨_, es, rd⟩
    · rw [List.getElem?_set_ne hk] at ek
      obtain ⟨v, h1, h2⟩ := j.val k e ek
      exact ⟨v, h1, h2.mono (fun _ z => .inl z) fun _ _ _ h => h⟩
  · by_cases hk : i = k
    · subst hk
      rw [List.getElem?_set_self hi] at ek
      cases ek
    · rw [List.getElem?_set_ne hk] at ek
      obtain ⟨q, h1, h2, h3, h4, h5, h6⟩ := j.own k e ek
      refine ⟨q, h1, h2.mono (fun _ z => .inl z) (fun _ _ _ h => h) fun _ h => h, fun z => ?_, h4, h5, h6⟩
      rcases z with z | rfl
      · exact h3 z
      · exact hk (j.sep i k d e q ei ek es h1)
  · rcases z with z | rfl
    · exact (j.res q r).1 z
    · exact nr r
  · by_cases hk : i = k
    · subst hk
      rw [List.getElem?_set_self hi] at ek
      cases ek
    · by_cases hl : i = l
      · subst hl
        rw [List.getElem?_set_self hi] at el
        cases el
      · rw [List.getElem?_set_ne hk] at ek
        rw [List.getElem?_set_ne hl] at el
        exact j.sep k l e f q ek el
theorem m_vr {i : Nat} (h : PE X e (tVar i)) : PE X e (RdE B (vr i)) := PE.imp h fun σ H Q ⟨Z, ρ, ω, j, h⟩ => by
  unfold vr at h
  cases ei : ρ[i]? with
  | none => simp only [ei] at h
  | some s =>
    simp only [ei] at h
    cases s with
    | no => exact h.elim
    | val d =>
      obtain ⟨v, h1, h2⟩ := j.val i d ei
      exact ⟨v, h1, h Z v H .refl (fun _ z => z) j h2⟩
    | own d =>
      obtain ⟨p, h1, h2, h3, h4, h5, h6⟩ := j.own i d ei
      obtain ⟨j', rd⟩ := j.freeze ei h1 h2 h4 h5 h6
      exact ⟨_, h1, h _ _ H .refl (fun _ z => .inl z) j' rd⟩
theorem m_bw {i : Nat} (h : PE X e (tVar i)) : PE X e (RdB B (bw i)) := PE.imp h fun σ H Q ⟨Z, ρ, ω, j, h⟩ => by
  unfold bw at h
  cases ei : ρ[i]? with
  | none => simp only [ei] at h
  | some s =>
    simp only [ei] at h
    cases s with
    | no => exact h.elim
    | val d =>
      obtain ⟨v, h1, h2⟩ := j.val i d ei
      exact ⟨v, h1, h Z v H .refl (fun _ z => z) j (.inl h2)⟩
    | own d =>
      obtain ⟨p, h1, h2, h3, h4, h5, h6⟩ := j.own i d ei
      exact ⟨_, h1, h _ _ H .refl (fun _ z => z) j (.inr ⟨p, rfl, h4, h2⟩)⟩
/-- what may be handed on may be read -/
theorem m_b {f : EM D} (h : PE X e (RdE B f)) : PE X e (RdB B f) := PE.imp h fun σ H Q ⟨Z, ρ, ω, j, h⟩ => by
  refine ⟨Z, ρ, ω, j, ?_⟩
  cases ef : f ρ ω with
  | bad => simp only [ef] at h
  | exc c ω' => simp only [ef] at h; exact h
  | ok d ρ' ω' =>
    simp only [ef] at h
    intro Z' v H' e1 e2 e3 e4
    exact h Z' v H' e1 e2 e3 (.inl e4)

/-! constants -/
def kk (d : D) : EM D := fun ρ ω => .ok d ρ ω
theorem m_k {d : D} {v : V} (h : PE X e (tC v)) (r : ∀ Z H, RD B.g.tk Z H d v) : PE X e (RdE B (kk d)) := PE.imp h fun σ H Q ⟨Z, ρ, ω, j, h⟩ => h Z v H .refl (fun _ z => z) j (r Z H)
theorem m_int {i : Int} (h : PE X e (tC (.int i))) : PE X e (RdE B (kk (.int i))) := m_k h fun _ _ => .int i
theorem m_bl {i : Bool} (h : PE X e (tC (.bl i))) : PE X e (RdE B (kk (.bl i))) := m_k h fun _ _ => .bl i
theorem m_non (h : PE X e (tC .non)) : PE X e (RdE B (kk .non)) := m_k h fun _ _ => .non
theorem m_str {i : Str} (h : PE X e (tC (.str i))) : PE X e (RdE B (kk (.str i))) := m_k h fun _ _ => .str i

/-! operators by values -/
def Sim1 (g : Gd) (r : V → Hp → VK → Prop) (f : D → Option D) : Prop := ∀ (Z : Addr → Prop) (H : Hp) (ω : W3) (x : V) (a d : D) (Q : VK), Good g Z H ω → BR g Z H a x → f a = some d →
  (∀ Z' v H', Grow g Z H Z' H' → RD g.tk Z' H' d v → Q v H') → r x H Q
def Sim2 (g : Gd) (r : R2) (f : D → D → Option D) : Prop := ∀ (Z : Addr → Prop) (H : Hp) (ω : W3) (x y : V) (a b d : D) (Q : VK), Good g Z H ω → BR g Z H a x → BR g Z H b y → f a b = some d →
  (∀ Z' v H', Grow g Z H Z' H' → RD g.tk Z' H' d v → Q v H') → r x y H Q
def optM {α : Type} (o : Option α) : EM α := fun ρ ω => match o with
  | some d => .ok d ρ ω
  | none => .bad
def op1 (f : D → Option D) (a : EM D) : EM D := fun ρ ω => (a ρ ω).andThen fun x => optM (f x)
def op2 (f : D → D → Option D) (a b : EM D) : EM D := fun ρ ω => (a ρ ω).andThen fun x ρ ω => (b ρ ω).andThen fun y => optM (f x y)
theorem i_op1 {r : V → Hp → VK → Prop} {f : D → Option D} {fa : EM D} (hs : Sim1 B.g r f) : ∀ σ H Q, RdE B (op1 f fa) σ H Q → RdB B fa σ H fun x H1 => r x H1 Q := fun σ H Q ⟨Z, ρ, ω, j, h⟩ => by
  refine ⟨Z, ρ, ω, j, ?_⟩
  unfold op1 at h
  cases ea : fa ρ ω with
  | bad => simp only [ea, Out.andThen] at h
  | exc c ω' => simp only [ea, Out.andThen] at h; exact h
  | ok d ρ1 ω1 =>
    simp only [ea, Out.andThen, optM] at h
    intro Z1 x H1 e1 z1 j1 r1
    cases ef : f d with
    | none => simp only [ef] at h
    | some u =>
      simp only [ef] at h
      exact hs Z1 H1 ω1 x d u Q j1.good r1 ef fun Z2 v H2 gr rd => h Z2 v H2 (e1.trans gr.ext) (fun p z => gr.sub p (z1 p z)) (j1.grow gr) rd
theorem i_op2 {r : R2} {f : D → D → Option D} {fa fb : EM D} (hs : Sim2 B.g r f) : ∀ σ H Q, RdE B (op2 f fa fb) σ H Q → RdB B fa σ H fun x H1 => RdB B fb σ H1 fun y H2 => r x y H2 Q := fun σ H Q ⟨Z, ρ, ω, j, h⟩ => by
  refine ⟨Z, ρ, ω, j, ?_⟩
  unfold op2 at h
  cases ea : fa ρ ω with
  | bad => simp only [ea, Out.andThen] at h
  | exc c ω' => simp only [ea, Out.andThen] at h; exact h
  | ok d ρ1 ω1 =>
    simp only [ea, Out.andThen, optM] at h
    intro Z1 x H1 e1 z1 j1 r1
    refine ⟨Z1, ρ1, ω1, j1, ?_⟩
    cases eb : fb ρ1 ω1 with
    | bad => simp only [eb] at h
    | exc c ω' => simp only [eb] at h; exact h
    | ok d2 ρ2 ω2 =>
      simp only [eb] at h
      intro Z2 y H2 e2 z2 j2 r2
      cases ef : f d d2 with
      | none => simp only [ef] at h
      | some u =>
        simp only [ef] at h
        exact hs Z2 H2 ω2 x y d d2 u Q j2.good (r1.ext j1.good z2 e2) r2 ef fun Z3 v H3 gr rd => h Z3 v H3 (e1.trans (e2.trans gr.ext)) (fun p z => gr.sub p (z2 p (z1 p z))) (j2.grow gr) rd
theorem m_op1 {r : V → Hp → VK → Prop} {f : D → Option D} {fa : EM D} (hs : Sim1 B.g r f) (hc : ∀ ta : TE, PE X a ta → PE X e (fun σ H Q => ta σ H fun x H1 => r x H1 Q)) (ha : PE X a (RdB B fa)) : PE X e (RdE B (op1 f fa)) :=
  PE.imp (hc _ ha) (i_op1 hs)
theorem m_op2 {r : R2} {f : D → D → Option D} {fa fb : EM D} (hs : Sim2 B.g r f) (hc : ∀ ta tb : TE, PE X a ta → PE X b tb → PE X e (fun σ H Q => ta σ H fun x H1 => tb σ H1 fun y H2 => r x y H2 Q)) (ha : PE X a (RdB B fa)) (hb : PE X b (RdB B fb)) : PE X e (RdE B (op2 f fa fb)) :=
  PE.imp (hc _ _ ha hb) (i_op2 hs)

/-! tests -/
def asB (f : EM D) : EM Bool := fun ρ ω => (f ρ ω).andThen fun d ρ ω => match d with
  | .bl b => .ok b ρ ω
  | _ => .bad
theorem i_test {f : EM D} {t : TE} (h : ∀ σ H Q, RdE B f σ H Q → t σ H Q) : ∀ σ H Q, RdT B (asB f) σ H Q → t σ H fun x H' => ∃ k, x = .bl k ∧ Q k H' := fun σ H Q ⟨Z, ρ, ω, j, q⟩ => by
  refine h σ H _ ⟨Z, ρ, ω, j, ?_⟩
  unfold asB at q
  cases ea : f ρ ω with
  | bad => simp only [ea, Out.andThen] at q
  | exc c ω' => simp only [ea, Out.andThen] at q; exact q
  | ok d ρ1 ω1 =>
    simp only [ea, Out.andThen] at q
    intro Z1 x H1 e1 z1 j1 r1
    cases d with
    | bl k => exact ⟨k, BR.bl (.inl r1), q Z1 H1 e1 z1 j1⟩
    | _ => exact q.elim
theorem m_tval {f : EM D} (h : PE X e (RdE B f)) (he : ∀ whole, isTrue e X.env whole = (do let v ← whole; standAt e.pos; holding [v] (truthy v)) := by intro _; rfl) : PT X e (RdT B (asB f)) := PT.imp (pt_val h he) (i_test fun _ _ _ h => h)
/-- a comparison as a test -/
theorem m_tcmp {op : CmpOp} {pos : Pos} {r : R2} {f : D → D → Option D} {fa fb : EM D} (hs : Sim2 B.g r f) (ho : OpR X (compareOp op) r) (ha : PE X a (RdB B fa)) (hb : PE X b (RdB B fb)) (hm : behindInMarks op b = false) :
    PT X (.Compare a [op] [b] pos) (RdT B (asB (op2 f fa fb))) := PT.imp (pt_cmpR ho ha hb hm) (i_test (i_op2 hs))
theorem m_cmp {op : CmpOp} {pos : Pos} {r : R2} {f : D → D → Option D} {fa fb : EM D} (hs : Sim2 B.g r f) (ho : OpR X (compareOp op) r) (ha : PE X a (RdB B fa)) (hb : PE X b (RdB B fb)) (hm : behindInMarks op b = false) :
    PE X (.Compare a [op] [b] pos) (RdE B (op2 f fa fb)) := PE.imp (pe_cmpR ho ha hb hm) (i_op2 hs)
def notT (f : EM Bool) : EM Bool := fun ρ ω => (f ρ ω).andThen fun b ρ ω => .ok (!b) ρ ω
def andT (f h : EM Bool) : EM Bool := fun ρ ω => (f ρ ω).andThen fun b ρ ω => match b with
  | true => h ρ ω
  | false => .ok false ρ ω
def orT (f h : EM Bool) : EM Bool := fun ρ ω => (f ρ ω).andThen fun b ρ ω => match b with
  | true => .ok true ρ ω
  | false => h ρ ω
theorem m_tnot {pos : Pos} {f : EM Bool} (h : PT X a (RdT B f)) : PT X (.UnaryOp .Not a pos) (RdT B (notT f)) := PT.imp (pt_not h) fun σ H Q ⟨Z, ρ, ω, j, q⟩ => by
  refine ⟨Z, ρ, ω, j, ?_⟩
  unfold notT at q
  cases ea : f ρ ω with
  | bad => simp only [ea, Out.andThen] at q
  | exc c ω' => simp only [ea, Out.andThen] at q; exact q
  | ok d ρ1 ω1 =>
    simp only [ea, Out.andThen] at q
    exact q
end
end L2.Fl

namespace L2.Fl
open PySem PySem.Spec PyProof.Rows

section
variable {X : Cx} {B : Bc} {e a b c : Expr} {rest : List Expr} {pos : Pos}
/-! and, or, conditional expressions, chains -/
theorem i_andT {f h : EM Bool} {t u : TT} (hf : ∀ σ H Q, RdT B f σ H Q → t σ H Q) (hh : ∀ σ H Q, RdT B h σ H Q → u σ H Q) : ∀ σ H Q, RdT B (andT f h) σ H Q → tAnd t u σ H Q := fun σ H Q ⟨Z, ρ, ω, j, q⟩ => by
  refine hf σ H _ ⟨Z, ρ, ω, j, ?_⟩
  unfold andT at q
  cases ea : f ρ ω with
  | bad => simp only [ea, Out.andThen] at q
  | exc c ω' => simp only [ea, Out.andThen] at q; exact q
  | ok d ρ1 ω1 =>
    simp only [ea, Out.andThen] at q
    intro Z1 H1 e1 z1 j1
    cases d with
    | false =>
      simp only at q
      simp only [Bool.false_eq_true, if_false]
      exact q Z1 H1 e1 z1 j1
    | true =>
      simp only at q
      simp only [if_true]
      refine hh σ H1 Q ⟨Z1, ρ1, ω1, j1, ?_⟩
      cases eb : h ρ1 ω1 with
      | bad => simp only [eb] at q
      | exc c ω' => simp only [eb] at q; exact q
      | ok d ρ2 ω2 =>
        simp only [eb] at q
        exact fun Z2 H2 e2 z2 j2 => q Z2 H2 (e1.trans e2) (fun p z => z2 p (z1 p z)) j2
theorem i_orT {f h : EM Bool} {t u : TT} (hf : ∀ σ H Q, RdT B f σ H Q → t σ H Q) (hh : ∀ σ H Q, RdT B h σ H Q → u σ H Q) : ∀ σ H Q, RdT B (orT f h) σ H Q → tOr t u σ H Q := fun σ H Q ⟨Z, ρ, ω, j, q⟩ => by
  refine hf σ H _ ⟨Z, ρ, ω, j, ?_⟩
  unfold orT at q
  cases ea : f ρ ω with
  | bad => simp only [ea, Out.andThen] at q
  | exc c ω' => simp only [ea, Out.andThen] at q; exact q
  | ok d ρ1 ω1 =>
    simp only [ea, Out.andThen] at q
    intro Z1 H1 e1 z1 j1
    cases d with
    | true =>
      simp only at q
      simp only [if_true]
      exact q Z1 H1 e1 z1 j1
    | false =>
      simp only at q
      simp only [Bool.false_eq_true, if_false]
      refine hh σ H1 Q ⟨Z1, ρ1, ω1, j1, ?_⟩
      cases eb : h ρ1 ω1 with
      | bad => simp only [eb] at q
      | exc c ω' => simp only [eb] at q; exact q
      | ok d ρ2 ω2 =>
        simp only [eb] at q
        exact fun Z2 H2 e2 z2 j2 => q Z2 H2 (e1.trans e2) (fun p z => z2 p (z1 p z)) j2
theorem PW.imp {t t' : TT} (h : PW X e t) (i : ∀ σ H Q, t' σ H Q → t σ H Q) : PW X e t' := ⟨fun wh pins s σ H Q I q => h.run wh pins s σ H Q I (i σ H Q q)⟩
theorem w_and1 {f : EM Bool} (ha : PT X a (RdT B f)) : PW X (.BoolOp .And [a] pos) (RdT B f) := pw_and1 ha
theorem w_or1 {f : EM Bool} (ha : PT X a (RdT B f)) : PW X (.BoolOp .Or [a] pos) (RdT B f) := pw_or1 ha
theorem w_and {f h : EM Bool} (ha : PT X a (RdT B f)) (hb : PW X (.BoolOp .And (b :: rest) pos) (RdT B h)) : PW X (.BoolOp .And (a :: b :: rest) pos) (RdT B (andT f h)) := PW.imp (pw_and ha hb) (i_andT (fun _ _ _ h => h) fun _ _ _ h => h)
theorem w_or {f h : EM Bool} (ha : PT X a (RdT B f)) (hb : PW X (.BoolOp .Or (b :: rest) pos) (RdT B h)) : PW X (.BoolOp .Or (a :: b :: rest) pos) (RdT B (orT f h)) := PW.imp (pw_or ha hb) (i_orT (fun _ _ _ h => h) fun _ _ _ h => h)

def ofT (f : EM Bool) : EM D := fun ρ ω => (f ρ ω).andThen fun b ρ ω => .ok (.bl b) ρ ω
/-- values that are bools -/
theorem i_asB {f : EM D} : ∀ σ H (Q : Bool → Hp → Prop), RdT B (asB f) σ H Q → RdE B f σ H fun x H' => ∃ k, x = .bl k ∧ Q k H' := i_test fun _ _ _ h => h
theorem m_andV {f h : EM D} (ha : PE X a (RdE B f)) (hb : PE X (.BoolOp .And (b :: rest) pos) (RdE B h)) : PE X (.BoolOp .And (a :: b :: rest) pos) (RdE B (ofT (andT (asB f) (asB h)))) := PE.imp (pe_and ha hb) fun σ H Q ⟨Z, ρ, ω, j, q⟩ => by
  have q2 : RdT B (andT (asB f) (asB h)) σ H fun k H' => Q (.bl k) H' := by
    refine ⟨Z, ρ, ω, j, ?_⟩
    unfold ofT at q
    cases ea : andT (asB f) (asB h) ρ ω with
    | bad => simp only [ea, Out.andThen] at q
    | exc c ω' => simp only [ea, Out.andThen] at q; exact q
    | ok d ρ1 ω1 =>
      simp only [ea, Out.andThen] at q
      exact fun Z1 H1 e1 z1 j1 => q Z1 _ H1 e1 z1 j1 (.bl d)
  have q3 := i_andT (t := RdT B (asB f)) (u := RdT B (asB h)) (fun _ _ _ h => h) (fun _ _ _ h => h) σ H _ q2
  have q4 := i_asB σ H _ q3
  obtain ⟨Z', ρ', ω', j', q5⟩ := q4
  refine ⟨Z', ρ', ω', j', ?_⟩
  cases ea : f ρ' ω' with
  | bad => simp only [ea] at q5
  | exc c ω' => simp only [ea] at q5; exact q5
  | ok d ρ1 ω1 =>
    simp only [ea] at q5
    intro Z1 v H1 e1 z1 j1 r1
    obtain ⟨k, rfl, q6⟩ := q5 Z1 v H1 e1 z1 j1 r1
    refine ⟨k, rfl, ?_⟩
    cases k with
    | false =>
      simp only [Bool.false_eq_true, if_false] at q6 ⊢
      exact q6
    | true =>
      simp only [if_true] at q6 ⊢
      obtain ⟨Z2, ρ2, ω2, j2, q7⟩ := i_asB σ H1 _ q6
      refine ⟨Z2, ρ2, ω2, j2, ?_⟩
      cases eb : h ρ2 ω2 with
      | bad => simp only [eb] at q7
      | exc c ω' => simp only [eb] at q7; exact q7
      | ok d ρ3 ω3 =>
        simp only [eb] at q7
        intro Z3 v H3 e3 z3 j3 r3
        obtain ⟨k, rfl, q8⟩ := q7 Z3 v H3 e3 z3 j3 r3
        exact q8
theorem m_orV {f h : EM D} (ha : PE X a (RdE B f)) (hb : PE X (.BoolOp .Or (b :: rest) pos) (RdE B h)) : PE X (.BoolOp .Or (a :: b :: rest) pos) (RdE B (ofT (orT (asB f) (asB h)))) := PE.imp (pe_or ha hb) fun σ H Q ⟨Z, ρ, ω, j, q⟩ => by
  have q2 : RdT B (orT (asB f) (asB h)) σ H fun k H' => Q (.bl k) H' := by
    refine ⟨Z, ρ, ω, j, ?_⟩
    unfold ofT at q
    cases ea : orT (asB f) (asB h) ρ ω with
    | bad => simp only [ea, Out.andThen] at q
    | exc c ω' => simp only [ea, Out.andThen] at q; exact q
    | ok d ρ1 ω1 =>
      simp only [ea, Out.andThen] at q
      exact fun Z1 H1 e1 z1 j1 => q Z1 _ H1 e1 z1 j1 (.bl d)
  have q3 := i_orT (t := RdT B (asB f)) (u := RdT B (asB h)) (fun _ _ _ h => h) (fun _ _ _ h => h) σ H _ q2
  have q4 := i_asB σ H _ q3
  obtain ⟨Z', ρ', ω', j', q5⟩ := q4
  refine ⟨Z', ρ', ω', j', ?_⟩
  cases ea : f ρ' ω' with
  | bad => simp only [ea] at q5
  | exc c ω' => simp only [ea] at q5; exact q5
  | ok d ρ1 ω1 =>
    simp only [ea] at q5
    intro Z1 v H1 e1 z1 j1 r1
    obtain ⟨k, rfl, q6⟩ := q5 Z1 v H1 e1 z1 j1 r1
    refine ⟨k, rfl, ?_⟩
    cases k with
    | true =>
      simp only [if_true] at q6 ⊢
      exact q6
    | false =>
      simp only [Bool.false_eq_true, if_false] at q6 ⊢
      obtain ⟨Z2, ρ2, ω2, j2, q7⟩ := i_asB σ H1 _ q6
      refine ⟨Z2, ρ2, ω2, j2, ?_⟩
      cases eb : h ρ2 ω2 with
      | bad => simp only [eb] at q7
      | exc c ω' => simp only [eb] at q7; exact q7
      | ok d ρ3 ω3 =>
        simp only [eb] at q7
        intro Z3 v H3 e3 z3 j3 r3
        obtain ⟨k, rfl, q8⟩ := q7 Z3 v H3 e3 z3 j3 r3
        exact q8
theorem m_one {op} {f : EM D} (h : PE X a (RdE B f)) : PE X (.BoolOp op [a] pos) (RdE B f) := pe_one h
theorem m_notV {f : EM D} (ha : PE X a (RdE B f)) : PE X (.UnaryOp .Not a pos) (RdE B (ofT (notT (asB f)))) := PE.imp (pe_not ha) fun σ H Q ⟨Z, ρ, ω, j, q⟩ => by
  have q2 : RdT B (asB f) σ H fun k H' => Q (.bl (!k)) H' := by
    refine ⟨Z, ρ, ω, j, ?_⟩
    unfold ofT notT at q
    cases ea : asB f ρ ω with
    | bad => simp only [ea, Out.andThen] at q
    | exc c ω' => simp only [ea, Out.andThen] at q; exact q
    | ok d ρ1 ω1 =>
      simp only [ea, Out.andThen] at q
      exact fun Z1 H1 e1 z1 j1 => q Z1 _ H1 e1 z1 j1 (.bl _)
  exact i_asB σ H _ q2
def ifM {α : Type} (t : EM Bool) (f h : EM α) : EM α := fun ρ ω => (t ρ ω).andThen fun b ρ ω => match b with
  | true => f ρ ω
  | false => h ρ ω
theorem m_if {t : EM Bool} {f h : EM D} (hc : PT X c (RdT B t)) (ha : PE X a (RdE B f)) (hb : PE X b (RdE B h)) : PE X (.IfExp c a b pos) (RdE B (ifM t f h)) := PE.imp (pe_ifExp hc ha hb) fun σ H Q ⟨Z, ρ, ω, j, q⟩ => by
  refine ⟨Z, ρ, ω, j, ?_⟩
  unfold ifM at q
  cases ea : t ρ ω with
  | bad => simp only [ea, Out.andThen] at q
  | exc c ω' => simp only [ea, Out.andThen] at q; exact q
  | ok d ρ1 ω1 =>
    simp only [ea, Out.andThen] at q
    intro Z1 H1 e1 z1 j1
    cases d with
    | true =>
      simp only at q
      simp only [if_true]
      refine ⟨Z1, ρ1, ω1, j1, ?_⟩
      cases eb : f ρ1 ω1 with
      | bad => simp only [eb] at q
      | exc c ω' => simp only [eb] at q; exact q
      | ok d ρ2 ω2 =>
        simp only [eb] at q
        exact fun Z2 v H2 e2 z2 j2 r2 => q Z2 v H2 (e1.trans e2) (fun p z => z2 p (z1 p z)) j2 r2
    | false =>
      simp only at q
      simp only [Bool.false_eq_true, if_false]
      refine ⟨Z1, ρ1, ω1, j1, ?_⟩
      cases eb : h ρ1 ω1 with
      | bad => simp only [eb] at q
      | exc c ω' => simp only [eb] at q; exact q
      | ok d ρ2 ω2 =>
        simp only [eb] at q
        exact fun Z2 v H2 e2 z2 j2 r2 => q Z2 v H2 (e1.trans e2) (fun p z => z2 p (z1 p z)) j2 r2
/-- a < b < c -/
def chM (f f' : D → D → Option D) (fa fb fc : EM D) : EM D := fun ρ ω => (fa ρ ω).andThen fun x ρ ω => (fb ρ ω).andThen fun y ρ ω => match f x y with
  | some (.bl true) => (fc ρ ω).andThen fun z => optM (f' y z)
  | some (.bl false) => .ok (.bl false) ρ ω
  | _ => .bad
theorem i_ch {r r' : R2} {f f' : D → D → Option D} {fa fb fc : EM D} (hs : Sim2 B.g r f) (hs' : Sim2 B.g r' f') : ∀ σ H Q, RdE B (chM f f' fa fb fc) σ H Q → tChain r r' (RdB B fa) (RdB B fb) (RdB B fc) σ H Q := fun σ H Q ⟨Z, ρ, ω, j, h⟩ => by
  refine ⟨Z, ρ, ω, j, ?_⟩
  unfold chM at h
  cases ea : fa ρ ω with
  | bad => simp only [ea, Out.andThen] at h
  | exc c ω' => simp only [ea, Out.andThen] at h; exact h
  | ok d ρ1 ω1 =>
    simp only [ea, Out.andThen, optM] at h
    intro Z1 x H1 e1 z1 j1 r1
    refine ⟨Z1, ρ1, ω1, j1, ?_⟩
    cases eb : fb ρ1 ω1 with
    | bad => simp only [eb] at h
    | exc c ω' => simp only [eb] at h; exact h
    | ok d2 ρ2 ω2 =>
      simp only [eb] at h
      intro Z2 y H2 e2 z2 j2 r2
      cases ef : f d d2 with
      | none => simp only [ef] at h
      | some u =>
        refine hs Z2 H2 ω2 x y d d2 u _ j2.good (r1.ext j1.good z2 e2) r2 ef fun Z3 v H3 gr rd => ?_
        have j3 := j2.grow gr
        have ry := r2.grow gr
        rw [ef] at h
        cases u with
        | bl k =>
          refine ⟨k, BR.bl (.inl rd), ?_⟩
          cases k with
          | false =>
            simp only at h
            simp only [Bool.false_eq_true, if_false]
            exact h Z3 _ H3 (e1.trans (e2.trans gr.ext)) (fun p z => gr.sub p (z2 p (z1 p z))) j3 (.bl false)
          | true =>
            simp only at h
            simp only [if_true]
            refine ⟨Z3, ρ2, ω2, j3, ?_⟩
            cases ec : fc ρ2 ω2 with
            | bad => simp only [ec] at h
            | exc c ω' => simp only [ec] at h; exact h
            | ok d4 ρ4 ω4 =>
              simp only [ec] at h
              intro Z4 z H4 e4 z4 j4 r4
              cases eg : f' d2 d4 with
              | none => simp only [eg] at h
              | some u' =>
                simp only [eg] at h
                exact hs' Z4 H4 ω4 y z d2 d4 u' Q j4.good (ry.ext j3.good z4 e4) r4 eg fun Z5 v H5 gr5 rd5 => h Z5 v H5 (e1.trans (e2.trans (gr.ext.trans (e4.trans gr5.ext)))) (fun p q => gr5.sub p (z4 p (gr.sub p (z2 p (z1 p q))))) (j4.grow gr5) rd5
        | _ => exact h.elim
theorem m_ch {op op' : CmpOp} {r r' : R2} {f f' : D → D → Option D} {fa fb fc : EM D} (hs : Sim2 B.g r f) (hs' : Sim2 B.g r' f') (ho : OpR X (compareOp op) r) (ho' : OpR X (compareOp op') r')
    (hc : PE X (.Compare a [op, op'] [b, c] pos) (tChain r r' (RdB B fa) (RdB B fb) (RdB B fc))) : PE X (.Compare a [op, op'] [b, c] pos) (RdE B (chM f f' fa fb fc)) := PE.imp hc (i_ch hs hs')
theorem m_tch {op op' : CmpOp} {r r' : R2} {f f' : D → D → Option D} {fa fb fc : EM D} (hs : Sim2 B.g r f) (hs' : Sim2 B.g r' f')
    (hc : PT X (.Compare a [op, op'] [b, c] pos) (tTest (tChain r r' (RdB B fa) (RdB B fb) (RdB B fc)))) : PT X (.Compare a [op, op'] [b, c] pos) (RdT B (asB (chM f f' fa fb fc))) := PT.imp hc (i_test (i_ch hs hs'))

/-! argument lists, displays -/
def nilM : EM (List D) := fun ρ ω => .ok [] ρ ω
def consM (f : EM D) (r : EM (List D)) : EM (List D) := fun ρ ω => (f ρ ω).andThen fun x ρ ω => (r ρ ω).andThen fun xs ρ ω => .ok (x :: xs) ρ ω
theorem a_nil : PA X [] (RdA B nilM) := PA.imp pa_nil fun σ H Q ⟨Z, ρ, ω, j, h⟩ => h Z [] H .refl (fun _ z => z) j .nil
theorem i_cons {f : EM D} {r : EM (List D)} : ∀ σ H Q, RdA B (consM f r) σ H Q → tCons (RdE B f) (RdA B r) σ H Q := fun σ H Q ⟨Z, ρ, ω, j, h⟩ => by
  refine ⟨Z, ρ, ω, j, ?_⟩
  unfold consM at h
  cases ea : f ρ ω with
  | bad => simp only [ea, Out.andThen] at h
  | exc c ω' => simp only [ea, Out.andThen] at h; exact h
  | ok d ρ1 ω1 =>
    simp only [ea, Out.andThen] at h
    intro Z1 x H1 e1 z1 j1 r1
    refine ⟨Z1, ρ1, ω1, j1, ?_⟩
    cases eb : r ρ1 ω1 with
    | bad => simp only [eb] at h
    | exc c ω' => simp only [eb] at h; exact h
    | ok d2 ρ2 ω2 =>
      simp only [eb] at h
      exact fun Z2 ys H2 e2 z2 j2 r2 => h Z2 _ H2 (e1.trans e2) (fun p z => z2 p (z1 p z)) j2 (.cons (r1.ext j1.good z2 e2) r2)
theorem a_cons {es : List Expr} {f : EM D} {r : EM (List D)} (ha : PE X e (RdE B f)) (hr : PA X es (RdA B r)) (hs : starEach (e :: es) X.env = (false, eval e X.env) :: starEach es X.env := by rfl) : PA X (e :: es) (RdA B (consM f r)) := PA.imp (pa_cons ha hr hs) i_cons

/-- a new object p is laid -/
theorem grow_new {g : Gd} {Z : Addr → Prop} {H : Hp} {p : Addr} {o : HO} (hp : H p = none) (f : Fix o) : Grow g Z H (fun q => Z q ∨ q = p) (upd H p o) :=
  ⟨fun _ z => .inl z, fun q z => by
    rcases z with z | rfl
    · exact .inl z
    · exact .inr ⟨hp, o, upd_same, f⟩, fun q u h => by rw [upd_ne (ne_of_none h hp)]; exact h⟩
theorem grow_new0 {g : Gd} {Z : Addr → Prop} {H : Hp} {p : Addr} {o : HO} (hp : H p = none) : Grow g Z H Z (upd H p o) :=
  ⟨fun _ z => z, fun q z => .inl z, fun q u h => by rw [upd_ne (ne_of_none h hp)]; exact h⟩
theorem rd_newT {g : Gd} {Z : Addr → Prop} {H : Hp} {p : Addr} {ds : List D} {vs : List V} (hp : H p = none) (r : RDs g.tk Z H ds vs) : RD g.tk (fun q => Z q ∨ q = p) (upd H p (.tup vs)) (.tup ds) (.ref p) :=
  .tup upd_same (r.grow (grow_new (g := g) hp fix_tup))
theorem rd_newL {g : Gd} {Z : Addr → Prop} {H : Hp} {p : Addr} {ds : List D} {vs : List V} (hp : H p = none) (r : RDs g.tk Z H ds vs) : RD g.tk (fun q => Z q ∨ q = p) (upd H p (.lst vs)) (.lst ds) (.ref p) :=
  .obj (.inr rfl) (.lst upd_same (r.grow (grow_new (g := g) hp fix_lst)))

def LIM : Nat := 16777216
theorem lim_eq : LIM = sizeLine := by rw [sizeLine_eq]; rfl
def tupM (f : EM (List D)) : EM D := fun ρ ω => (f ρ ω).andThen fun ds ρ ω => if ds.length ≤ LIM then .ok (.tup ds) ρ ω else .bad
def lstF (f : EM (List D)) : EM (List D) := fun ρ ω => (f ρ ω).andThen fun ds ρ ω => if ds.length ≤ LIM then .ok ds ρ ω else .bad
theorem m_tup {es : List Expr} {k} {f : EM (List D)} (h : PA X es (RdA B f)) : PE X (.Tuple es k pos) (RdE B (tupM f)) := PE.imp (pe_tup h) fun σ H Q ⟨Z, ρ, ω, j, h⟩ => by
  refine ⟨Z, ρ, ω, j, ?_⟩
  unfold tupM at h
  cases ea : f ρ ω with
  | bad => simp only [ea, Out.andThen] at h
  | exc c ω' => simp only [ea, Out.andThen] at h; exact h
  | ok ds ρ1 ω1 =>
    simp only [ea, Out.andThen] at h
    intro Z1 vs H1 e1 z1 j1 r1
    by_cases hl : ds.length ≤ LIM
    · rw [if_pos hl] at h
      refine ⟨by rw [← r1.length, ← lim_eq]; exact hl, fun p hp => ?_⟩
      have gr := grow_new (g := B.g) (Z := Z1) (o := .tup vs) hp fix_tup
      exact h _ _ _ (e1.trans gr.ext) (fun q z => .inl (z1 q z)) (j1.grow gr) (rd_newT hp r1)
    · rw [if_neg hl] at h
      exact h.elim
/-- a new list that is nobody's: where it is laid -/
theorem fresh_of {Z : Addr → Prop} {ρ : Fr} {σ : St} {H : Hp} {ω : W3} {p : Addr} (j : J B Z ρ σ H ω) (hp : H p = none) : ¬ Z p ∧ B.g.pd ≠ some p ∧ B.H0 p = none ∧ ¬ B.Rz p ∧ ∀ (i : Nat) (d : D), ρ[i]? = some (.own d) → σ[i]? ≠ some (some (.ref p)) := by
  refine ⟨fun z => ?_, ?_, j.ext.dom p hp, fun r => (j.res p r).2 hp, fun i d e q => ?_⟩
  · obtain ⟨_, o, e, _⟩ := j.good.zs p z
    rw [hp] at e; cases e
  · intro e
    have := j.good.dice _ e
    rw [hp] at this; cases this
  · obtain ⟨p', h1, h2, _⟩ := j.own i d e
    rw [h1] at q; cases q
    obtain ⟨o, e, _⟩ := h2.there
    rw [hp] at e; cases e
theorem f_lst {es : List Expr} {f : EM (List D)} (h : PA X es (RdA B f)) : PE X (.List es pos) (RdF B (lstF f)) := PE.imp (pe_lst h) fun σ H Q ⟨Z, ρ, ω, j, h⟩ => by
  refine ⟨Z, ρ, ω, j, ?_⟩
  unfold lstF at h
  cases ea : f ρ ω with
  | bad => simp only [ea, Out.andThen] at h
  | exc c ω' => simp only [ea, Out.andThen] at h; exact h
  | ok ds ρ1 ω1 =>
    simp only [ea, Out.andThen] at h
    intro Z1 vs H1 e1 z1 j1 r1
    by_cases hl : ds.length ≤ LIM
    · rw [if_pos hl] at h
      refine ⟨by rw [← r1.length, ← lim_eq]; exact hl, fun p hp => ?_⟩
      obtain ⟨n1, n2, n3, n5, n4⟩ := fresh_of j1 hp
      have gr := grow_new0 (g := B.g) (Z := Z1) (o := .lst vs) hp
      exact h Z1 p vs _ (e1.trans gr.ext) z1 (j1.grow gr) upd_same (r1.grow gr) n1 n2 n3 n5 n4
    · rw [if_neg hl] at h
      exact h.elim
/-- a new list as a value -/
def frz (f : EM (List D)) : EM D := fun ρ ω => (f ρ ω).andThen fun ds ρ ω => .ok (.lst ds) ρ ω
theorem J.adopt {Z : Addr → Prop} {ρ : Fr} {σ : St} {H : Hp} {ω : W3} {p : Addr} {o : HO} (j : J B Z ρ σ H ω) (ho : H p = some o) (hf : Fix o) (np : B.g.pd ≠ some p) (h0 : B.H0 p = none) (nr : ¬ B.Rz p) (hn : ∀ (i : Nat) (d : D), ρ[i]? = some (.own d) → σ[i]? ≠ some (some (.ref p))) :
    J B (fun q => Z q ∨ q = p) ρ σ H ω := by
  refine ⟨⟨fun q z => ?_, j.good.dice, j.good.tabs⟩, j.ext, fun q z => .inl (j.z0 q z), fun q z => ?_, j.len, fun k e ek => ?_, fun k e ek => ?_, fun q r => ⟨fun z => ?_, (j.res q r).2⟩, j.sep⟩
  · rcases z with z | rfl
    · exact j.good.zs q z
    · exact ⟨np, o, ho, hf⟩
  · rcases z with z | rfl
    · exact j.zn q z
    · exact .inr h0
  · obtain ⟨v, h1, h2⟩ := j.val k e ek
    exact ⟨v, h1, h2.mono (fun _ z => .inl z) fun _ _ _ h => h⟩
  · obtain ⟨q, h1, h2, h3, h4, h5, h6⟩ := j.own k e ek
    refine ⟨q, h1, h2.mono (fun _ z => .inl z) (fun _ _ _ h => h) fun _ h => h, fun z => ?_, h4, h5, h6⟩
    rcases z with z | rfl
    · exact h3 z
    · exact hn k e ek h1
  · rcases z with z | rfl
    · exact (j.res q r).1 z
    · exact nr r
theorem i_frz {f : EM (List D)} : ∀ σ H Q, RdE B (frz f) σ H Q → RdF B f σ H Q := fun σ H Q ⟨Z, ρ, ω, j, h⟩ => by
  refine ⟨Z, ρ, ω, j, ?_⟩
  unfold frz at h
  cases ea : f ρ ω with
  | bad => simp only [ea, Out.andThen] at h
  | exc c ω' => simp only [ea, Out.andThen] at h; exact h
  | ok ds ρ1 ω1 =>
    simp only [ea, Out.andThen] at h
    intro Z1 p vs H1 e1 z1 j1 hp r1 nz np h0 nr hn
    exact h _ _ H1 e1 (fun q z => .inl (z1 q z)) (j1.adopt hp fix_lst np h0 nr hn) (.obj (.inr rfl) (.lst hp (r1.mono (fun _ z => .inl z) fun _ _ _ h => h)))
theorem m_frz {f : EM (List D)} (h : PE X e (RdF B f)) : PE X e (RdE B (frz f)) := PE.imp h i_frz
/-- an operator that gives a new list -/
def SimF2 (g : Gd) (r : R2) (f : D → D → Option (List D)) : Prop := ∀ (Z : Addr → Prop) (H : Hp) (ω : W3) (x y : V) (a b : D) (ds : List D) (Q : VK), Good g Z H ω → BR g Z H a x → BR g Z H b y → f a b = some ds →
  (∀ p vs, H p = none → RDs g.tk Z H ds vs → Q (.ref p) (upd H p (.lst vs))) → r x y H Q
def SimF1 (g : Gd) (r : V → Hp → VK → Prop) (f : D → Option (List D)) : Prop := ∀ (Z : Addr → Prop) (H : Hp) (ω : W3) (x : V) (a : D) (ds : List D) (Q : VK), Good g Z H ω → BR g Z H a x → f a = some ds →
  (∀ p vs, H p = none → RDs g.tk Z H ds vs → Q (.ref p) (upd H p (.lst vs))) → r x H Q
def opF2 (f : D → D → Option (List D)) (a b : EM D) : EM (List D) := fun ρ ω => (a ρ ω).andThen fun x ρ ω => (b ρ ω).andThen fun y => optM (f x y)
def opF1 (f : D → Option (List D)) (a : EM D) : EM (List D) := fun ρ ω => (a ρ ω).andThen fun x => optM (f x)
theorem f_op2 {r : R2} {f : D → D → Option (List D)} {fa fb : EM D} (hs : SimF2 B.g r f) (hc : PE X e (fun σ H Q => RdB B fa σ H fun x H1 => RdB B fb σ H1 fun y H2 => r x y H2 Q)) : PE X e (RdF B (opF2 f fa fb)) := PE.imp hc fun σ H Q ⟨Z, ρ, ω, j, h⟩ => by
  refine ⟨Z, ρ, ω, j, ?_⟩
  unfold opF2 at h
  cases ea : fa ρ ω with
  | bad => simp only [ea, Out.andThen] at h
  | exc c ω' => simp only [ea, Out.andThen] at h; exact h
  | ok d ρ1 ω1 =>
    simp only [ea, Out.andThen, optM] at h
    intro Z1 x H1 e1 z1 j1 r1
    refine ⟨Z1, ρ1, ω1, j1, ?_⟩
    cases eb : fb ρ1 ω1 with
    | bad => simp only [eb] at h
    | exc c ω' => simp only [eb] at h; exact h
    | ok d2 ρ2 ω2 =>
      simp only [eb] at h
      intro Z2 y H2 e2 z2 j2 r2
      cases ef : f d d2 with
      | none => simp only [ef] at h
      | some u =>
        simp only [ef] at h
        refine hs Z2 H2 ω2 x y d d2 u Q j2.good (r1.ext j1.good z2 e2) r2 ef fun p vs hp rv => ?_
        obtain ⟨n1, n2, n3, n5, n4⟩ := fresh_of j2 hp
        have gr := grow_new0 (g := B.g) (Z := Z2) (o := .lst vs) hp
        exact h Z2 p vs _ (e1.trans (e2.trans gr.ext)) (fun p z => z2 p (z1 p z)) (j2.grow gr) upd_same (rv.grow gr) n1 n2 n3 n5 n4
theorem f_op1 {r : V → Hp → VK → Prop} {f : D → Option (List D)} {fa : EM D} (hs : SimF1 B.g r f) (hc : PE X e (fun σ H Q => RdB B fa σ H fun x H1 => r x H1 Q)) : PE X e (RdF B (opF1 f fa)) := PE.imp hc fun σ H Q ⟨Z, ρ, ω, j, h⟩ => by
  refine ⟨Z, ρ, ω, j, ?_⟩
  unfold opF1 at h
  cases ea : fa ρ ω with
  | bad => simp only [ea, Out.andThen] at h
  | exc c ω' => simp only [ea, Out.andThen] at h; exact h
  | ok d ρ1 ω1 =>
    simp only [ea, Out.andThen, optM] at h
    intro Z1 x H1 e1 z1 j1 r1
    cases ef : f d with
    | none => simp only [ef] at h
    | some u =>
      simp only [ef] at h
      refine hs Z1 H1 ω1 x d u Q j1.good r1 ef fun p vs hp rv => ?_
      obtain ⟨n1, n2, n3, n5, n4⟩ := fresh_of j1 hp
      have gr := grow_new0 (g := B.g) (Z := Z1) (o := .lst vs) hp
      exact h Z1 p vs _ (e1.trans gr.ext) z1 (j1.grow gr) upd_same (rv.grow gr) n1 n2 n3 n5 n4
end
end L2.Fl

namespace L2.Fl
open PySem PySem.Spec PyProof.Rows

/-! ### plain data as the kit's data -/
mutual
def pD : D → PyData
  | .non => .none
  | .bl b => .bool b
  | .int i => .int i
  | .str s => .str s
  | .tok _ => .none
  | .tup xs => .tuple (pDs xs)
  | .ptup _ => .none
  | .lst xs => .list (pDs xs)
  | .dct _ => .none
  | .dctT _ => .none
  | .dctF _ => .none
  | .dctG _ => .none
def pDs : List D → List PyData
  | [] => []
  | d :: ds => pD d :: pDs ds
end
mutual
def okD : D → Nat → Bool
  | .non, _ => true
  | .bl _, _ => true
  | .int _, _ => true
  | .str s, _ => SeqAt.shaped (.str s)
  | .tok _, _ => false
  | .dct _, _ => false
  | .dctT _, _ => false
  | .dctF _, _ => false
  | .dctG _, _ => false
  | .tup xs, n => match n with
    | 0 => false
    | n + 1 => okDs xs n
  | .ptup _, _ => false
  | .lst xs, n => match n with
    | 0 => false
    | n + 1 => okDs xs n
def okDs : List D → Nat → Bool
  | [], _ => true
  | d :: ds, n => okD d n && okDs ds n
end
mutual
/-- == of plain data -/
def eqd : D → D → Bool
  | .non, .non => true
  | .bl a, .bl b => a == b
  | .bl a, .int j => (if a then 1 else 0) == j
  | .int i, .bl b => i == (if b then 1 else 0)
  | .int i, .int j => i == j
  | .str x, .str y => x == y
  | .lst xs, .lst ys => eqds xs ys
  | .tup xs, .tup ys => eqds xs ys
  | _, _ => false
def eqds : List D → List D → Bool
  | [], [] => true
  | x :: xs, y :: ys => eqd x y && eqds xs ys
  | _, _ => false
end
mutual
theorem okD_canLay : ∀ (d : D) (n : Nat), okD d n = true → PyData.canLay0 (pD d) = true ∧ (pD d).depth ≤ n
  | .non, _, _ => ⟨rfl, Nat.zero_le _⟩
  | .bl _, _, _ => ⟨rfl, Nat.zero_le _⟩
  | .int _, _, _ => ⟨rfl, Nat.zero_le _⟩
  | .str s, _, h => ⟨SeqAt.canLay_of_shaped (d := .str s) h, Nat.zero_le _⟩
  | .tok _, _, h => by simp [okD] at h
  | .dct _, _, h => by simp [okD] at h
  | .dctT _, _, h => by simp [okD] at h
  | .dctF _, _, h => by simp [okD] at h
  | .dctG _, _, h => by simp [okD] at h
  | .ptup _, _, h => by simp [okD] at h
  | .tup xs, n, h => by
    cases n with
    | zero => simp [okD] at h
    | succ n =>
      simp only [okD] at h
      obtain ⟨h1, h2⟩ := okDs_canLay xs n h
      exact ⟨by simp only [pD, PyData.canLay0]; exact h1, by simp only [pD, PyData.depth]; omega⟩
  | .lst xs, n, h => by
    cases n with
    | zero => simp [okD] at h
    | succ n =>
      simp only [okD] at h
      obtain ⟨h1, h2⟩ := okDs_canLay xs n h
      exact ⟨by simp only [pD, PyData.canLay0]; exact h1, by simp only [pD, PyData.depth]; omega⟩
theorem okDs_canLay : ∀ (ds : List D) (n : Nat), okDs ds n = true → PyData.canLayAll0 (pDs ds) = true ∧ PyData.depthAll (pDs ds) ≤ n
  | [], _, _ => ⟨rfl, Nat.zero_le _⟩
  | d :: ds, n, h => by
    simp only [okDs, Bool.and_eq_true] at h
    obtain ⟨h1, h2⟩ := okD_canLay d n h.1
    obtain ⟨h3, h4⟩ := okDs_canLay ds n h.2
    exact ⟨by simp only [pDs, PyData.canLayAll0, h1, h3]; rfl, by simp only [pDs, PyData.depthAll]; omega⟩
end
theorem okD_shaped {d : D} {n : Nat} (h : okD d n = true) (hn : n ≤ 64) : SeqAt.shaped (pD d) = true := by
  obtain ⟨h1, h2⟩ := okD_canLay d n h
  unfold SeqAt.shaped
  rw [h1, Bool.true_and]
  exact decide_eq_true (by omega)
mutual
theorem eqd_eqv : ∀ (a b : D) (n m : Nat), okD a n = true → okD b m = true → PyData.eqv (pD a) (pD b) = eqd a b
  | a, b, n, m, ha, hb => by
    cases a <;> cases b <;> first
      | (simp [okD] at ha; done)
      | (simp [okD] at hb; done)
      | (simp only [pD, PyData.eqv, eqd]; done)
      | (rename_i xs ys
         cases n with
         | zero => simp [okD] at ha
         | succ n =>
           cases m with
           | zero => simp [okD] at hb
           | succ m =>
             simp only [okD] at ha hb
             simp only [pD, PyData.eqv, eqd]
             exact eqds_eqv xs ys n m ha hb)
theorem eqds_eqv : ∀ (a b : List D) (n m : Nat), okDs a n = true → okDs b m = true → PyData.eqvAll (pDs a) (pDs b) = eqds a b
  | [], [], _, _, _, _ => by simp only [pDs, PyData.eqvAll, eqds]
  | [], _ :: _, _, _, _, _ => by simp only [pDs, PyData.eqvAll, eqds]
  | _ :: _, [], _, _, _, _ => by simp only [pDs, PyData.eqvAll, eqds]
  | x :: xs, y :: ys, n, m, ha, hb => by
    simp only [okDs, Bool.and_eq_true] at ha hb
    simp only [pDs, PyData.eqvAll, eqds, eqd_eqv x y n m ha.1 hb.1, eqds_eqv xs ys n m ha.2 hb.2]
end
section
variable {K : PySem.W.Frag} {tk : Nat → Option V} {Z : Addr → Prop} {H : Hp}
mutual
theorem RD.dp : ∀ {d : D} {v : V} {n : Nat}, RD tk Z H d v → okD d n = true → Dp K H v (pD d)
  | _, _, _, .non, _ => .non
  | _, _, _, .bl b, _ => .bl b
  | _, _, _, .int b, _ => .int b
  | _, _, _, .str b, _ => .str b
  | _, _, _, .tok b, h => by simp [okD] at h
  | .ptup ds, _, n, .ptup z e nd r, h => by simp [okD] at h
  | .dctF ds, _, n, .dctF z e r, h => by simp [okD] at h
  | .dctG ds, _, n, .dctG z e r, h => by simp [okD] at h
  | .tup ds, _, n, .tup e r, h => by
    cases n with
    | zero => simp [okD] at h
    | succ n =>
      simp only [okD] at h
      simp only [pD]
      exact .tup (SqT.of e) (RDs.dp r h)
  | d, _, n, .obj z r, h => RO.dp r h
theorem RO.dp : ∀ {d : D} {p : Addr} {n : Nat}, RO tk Z H d p → okD d n = true → Dp K H (.ref p) (pD d)
  | .lst ds, _, n, .lst e r, h => by
    cases n with
    | zero => simp [okD] at h
    | succ n =>
      simp only [okD] at h
      simp only [pD]
      exact .lst (SqL.of e) (RDs.dp r h)
  | _, _, _, .dK _ _, h => by simp [okD] at h
  | _, _, _, .dT _ _, h => by simp [okD] at h
theorem RDs.dp : ∀ {ds : List D} {vs : List V} {n : Nat}, RDs tk Z H ds vs → okDs ds n = true → DpAll K H vs (pDs ds)
  | _, _, _, .nil, _ => .nil
  | _, _, n, .cons a b, h => by
    simp only [okDs, Bool.and_eq_true] at h
    simp only [pDs]
    exact .cons (RD.dp a h.1) (RDs.dp b h.2)
end
end
theorem BR.dp {K : PySem.W.Frag} {g : Gd} {Z : Addr → Prop} {H : Hp} {d : D} {v : V} {n : Nat} (r : BR g Z H d v) (h : okD d n = true) : Dp K H v (pD d) := by
  rcases r with r | ⟨p, rfl, _, r⟩
  · exact r.dp h
  · exact r.dp h

/-! ### operators -/
def eqD (a b : D) : Option D := if okD a 8 && okD b 8 then some (.bl (eqd a b)) else none
def neD (a b : D) : Option D := if okD a 8 && okD b 8 then some (.bl (!eqd a b)) else none
section
variable {g : Gd} {X : Cx} {K : PySem.W.Frag}
theorem sim_eq : Sim2 g (rEqD K) eqD := fun Z H ω x y a b d Q G ra rb h hq => by
  unfold eqD at h
  by_cases hk : (okD a 8 && okD b 8) = true
  · rw [if_pos hk] at h
    cases h
    have hk := Bool.and_eq_true_iff.mp hk
    exact ⟨pD a, pD b, ra.dp hk.1, rb.dp hk.2, okD_shaped hk.1 (by decide), okD_shaped hk.2 (by decide), by rw [eqd_eqv a b 8 8 hk.1 hk.2]; exact hq Z _ H .refl (.bl _)⟩
  · rw [if_neg hk] at h; cases h
theorem sim_ne : Sim2 g (rNeD K) neD := fun Z H ω x y a b d Q G ra rb h hq => by
  unfold neD at h
  by_cases hk : (okD a 8 && okD b 8) = true
  · rw [if_pos hk] at h
    cases h
    have hk := Bool.and_eq_true_iff.mp hk
    exact ⟨pD a, pD b, ra.dp hk.1, rb.dp hk.2, okD_shaped hk.1 (by decide), okD_shaped hk.2 (by decide), by rw [eqd_eqv a b 8 8 hk.1 hk.2]; exact hq Z _ H .refl (.bl _)⟩
  · rw [if_neg hk] at h; cases h

/-- x in xs, lists and tuples -/
def rInB (K : PySem.W.Frag) (neg : Bool) : R2 := fun x y H Q => ∃ d ds, Dp K H x d ∧ (Dp K H y (.list ds) ∨ Dp K H y (.tuple ds)) ∧ SeqAt.shaped d = true ∧ SeqAt.shaped (.list ds) = true ∧ Q (.bl (if neg then !ds.any fun z => PyData.eqv z d else ds.any fun z => PyData.eqv z d)) H
theorem op_inB (hu : X.A.units + 65 < cLine) : OpR X (compareOp .In) (rInB X.K false) := by
  intro pins s σ H x y v u Q I rx ry h
  obtain ⟨d, ds, hd, he, sd, se, q⟩ := h
  obtain ⟨as, r1⟩ := Dp.reads I d x v hd rx
  rcases he with he | he
  · obtain ⟨bs, r2⟩ := Dp.reads I (.list ds) y u he ry
    exact SeqAt.in_list_reads r2 r1 (SeqAt.canLay_of_shaped se) (SeqAt.canLay_of_shaped sd) (room_in_shaped sd hu) ⟨.bl _, H, I, rfl, q⟩
  · obtain ⟨bs, r2⟩ := Dp.reads I (.tuple ds) y u he ry
    exact SeqAt.in_tuple_reads r2 r1 (SeqAt.canLay_of_shaped (show SeqAt.shaped (.tuple ds) = true from se)) (SeqAt.canLay_of_shaped sd) (room_in_shaped sd hu) ⟨.bl _, H, I, rfl, q⟩
theorem op_notInB (hu : X.A.units + 65 < cLine) : OpR X (compareOp .NotIn) (rInB X.K true) := by
  intro pins s σ H x y v u Q I rx ry h
  obtain ⟨d, ds, hd, he, sd, se, q⟩ := h
  obtain ⟨as, r1⟩ := Dp.reads I d x v hd rx
  rcases he with he | he
  · obtain ⟨bs, r2⟩ := Dp.reads I (.list ds) y u he ry
    exact SeqAt.notIn_list_reads r2 r1 (SeqAt.canLay_of_shaped se) (SeqAt.canLay_of_shaped sd) (room_in_shaped sd hu) ⟨.bl _, H, I, rfl, q⟩
  · obtain ⟨bs, r2⟩ := Dp.reads I (.tuple ds) y u he ry
    exact SeqAt.notIn_tuple_reads r2 r1 (SeqAt.canLay_of_shaped (show SeqAt.shaped (.tuple ds) = true from se)) (SeqAt.canLay_of_shaped sd) (room_in_shaped sd hu) ⟨.bl _, H, I, rfl, q⟩
def items? : D → Option (List D)
  | .lst xs => some xs
  | .tup xs => some xs
  | .ptup xs => some xs
  | _ => none
def inL (a : D) (xs : List D) : Bool := xs.any fun z => eqd z a
def inD (a b : D) : Option D := match items? b with
  | some xs => if okD a 8 && okDs xs 8 then some (.bl (inL a xs)) else none
  | none => none
def notInD (a b : D) : Option D := match items? b with
  | some xs => if okD a 8 && okDs xs 8 then some (.bl (!inL a xs)) else none
  | none => none
theorem any_eqd {a : D} {n : Nat} (ha : okD a n = true) : ∀ {xs : List D} {m : Nat}, okDs xs m = true → ((pDs xs).any fun z => PyData.eqv z (pD a)) = inL a xs
  | [], _, _ => rfl
  | x :: xs, m, h => by
    simp only [okDs, Bool.and_eq_true] at h
    have q := any_eqd ha (xs := xs) h.2
    unfold inL at q ⊢
    simp only [pDs, List.any_cons, q, eqd_eqv x a m n h.1 ha]
theorem shaped_items {xs : List D} (h : okDs xs 8 = true) : SeqAt.shaped (.list (pDs xs)) = true := okD_shaped (d := .lst xs) (n := 9) (by simp only [okD]; exact h) (by decide)
theorem items_dp {Z : Addr → Prop} {H : Hp} {b : D} {y : V} {xs : List D} (rb : BR g Z H b y) (e : items? b = some xs) (h : okDs xs 8 = true) : Dp K H y (.list (pDs xs)) ∨ Dp K H y (.tuple (pDs xs)) := by
  cases b with
  | lst ys => cases e; exact .inl (rb.dp (d := .lst xs) (n := 9) (by simp only [okD]; exact h))
  | tup ys => cases e; exact .inr (rb.dp (d := .tup xs) (n := 9) (by simp only [okD]; exact h))
  | ptup ys =>
    cases e
    obtain ⟨p, vs, o, rfl, zp, hp, nd, r1⟩ := rb.ptup
    exact .inr (.tup (SqT.fz hp) (RDs.dp r1 h))
  | _ => cases e
theorem sim_in : Sim2 g (rInB K false) inD := fun Z H ω x y a b d Q G ra rb h hq => by
  unfold inD at h
  cases e : items? b with
  | none => simp only [e] at h; cases h
  | some xs =>
    simp only [e] at h
    by_cases hk : (okD a 8 && okDs xs 8) = true
    · rw [if_pos hk] at h
      cases h
      have hk := Bool.and_eq_true_iff.mp hk
      exact ⟨pD a, pDs xs, ra.dp hk.1, items_dp rb e hk.2, okD_shaped hk.1 (by decide), shaped_items hk.2, by rw [any_eqd hk.1 hk.2]; exact hq Z _ H .refl (.bl _)⟩
    · rw [if_neg hk] at h; cases h
theorem sim_notIn : Sim2 g (rInB K true) notInD := fun Z H ω x y a b d Q G ra rb h hq => by
  unfold notInD at h
  cases e : items? b with
  | none => simp only [e] at h; cases h
  | some xs =>
    simp only [e] at h
    by_cases hk : (okD a 8 && okDs xs 8) = true
    · rw [if_pos hk] at h
      cases h
      have hk := Bool.and_eq_true_iff.mp hk
      exact ⟨pD a, pDs xs, ra.dp hk.1, items_dp rb e hk.2, okD_shaped hk.1 (by decide), shaped_items hk.2, by rw [any_eqd hk.1 hk.2]; exact hq Z _ H .refl (.bl _)⟩
    · rw [if_neg hk] at h; cases h

/-! whole numbers -/
def iB (p : Int → Int → Bool) (a b : D) : Option D := match a, b with
  | .int i, .int j => some (.bl (p i j))
  | _, _ => none
theorem sim_iB {p : Int → Int → Bool} : Sim2 g (rI0 fun i j => .bl (p i j)) (iB p) := fun Z H ω x y a b d Q G ra rb h hq => by
  cases a <;> cases b <;> first
    | (cases h; done)
    | (cases h; exact ⟨_, _, ra.int, rb.int, hq Z _ H .refl (.bl _)⟩)
def iI (p : Int → Int → Int) (a b : D) : Option D := match a, b with
  | .int i, .int j => some (.int (p i j))
  | _, _ => none
theorem sim_iI {p : Int → Int → Int} : Sim2 g (rI0 fun i j => .int (p i j)) (iI p) := fun Z H ω x y a b d Q G ra rb h hq => by
  cases a <;> cases b <;> first
    | (cases h; done)
    | (cases h; exact ⟨_, _, ra.int, rb.int, hq Z _ H .refl (.int _)⟩)
def iC (c : Int → Int → Bool) (p : Int → Int → Int) (a b : D) : Option D := match a, b with
  | .int i, .int j => if c i j then some (.int (p i j)) else none
  | _, _ => none
theorem sim_iC {C : Int → Int → Prop} {c : Int → Int → Bool} {p : Int → Int → Int} (hc : ∀ i j, c i j = true → C i j) : Sim2 g (rI C fun i j => .int (p i j)) (iC c p) := fun Z H ω x y a b d Q G ra rb h hq => by
  cases a <;> cases b <;> first
    | (simp only [iC] at h; cases h; done)
    | (rename_i i j
       simp only [iC] at h
       by_cases hk : c i j = true
       · rw [if_pos hk] at h
         cases h
         exact ⟨_, _, ra.int, rb.int, hc _ _ hk, hq Z _ H .refl (.int _)⟩
       · rw [if_neg hk] at h; cases h)
/-- a whole number within bounds (told so that an open number is not counted down) -/
def inBd (b : Nat) (i : Int) : Bool := match i with
  | .ofNat n => decide (n < b)
  | .negSucc n => decide (n < b)
theorem inBd_ok {b : Nat} {i : Int} (h : inBd b i = true) : -(b : Int) ≤ i ∧ i < b := by
  cases i with
  | ofNat n =>
    simp only [inBd, decide_eq_true_eq] at h
    have : (Int.ofNat n) = (n : Int) := rfl
    omega
  | negSucc n =>
    simp only [inBd, decide_eq_true_eq] at h
    omega
theorem inBd_of {b : Nat} {i : Int} (h1 : -(b : Int) ≤ i) (h2 : i < b) : inBd b i = true := by
  cases i with
  | ofNat n =>
    have : (Int.ofNat n) = (n : Int) := rfl
    simp only [inBd, decide_eq_true_eq]; omega
  | negSucc n => simp only [inBd, decide_eq_true_eq]; omega
def cMul (i j : Int) : Bool := inBd 18446744073709551615 i || inBd 18446744073709551615 j
theorem cMul_ok (i j : Int) (h : cMul i j = true) : CMul i j := by
  unfold cMul at h
  simp only [Bool.or_eq_true] at h
  rcases h with h | h
  · have := inBd_ok h; exact .inl ⟨by omega, by omega⟩
  · have := inBd_ok h; exact .inr ⟨by omega, by omega⟩
def cDiv (i j : Int) : Bool := decide (j ≠ 0) && decide (j.natAbs < 1073741824)
theorem cDiv_ok (i j : Int) (h : cDiv i j = true) : CDivN i j := by
  unfold cDiv at h
  simp only [Bool.and_eq_true, decide_eq_true_eq] at h
  exact h
def cMod (i j : Int) : Bool := decide (j ≠ 0)
def cPow (i j : Int) : Bool := decide (0 ≤ j) && decide (j ≤ 1000000) && decide (i.natAbs < 18446744073709551616)
theorem cPow_ok (i j : Int) (h : cPow i j = true) : CPow i j := by
  unfold cPow at h
  simp only [Bool.and_eq_true, decide_eq_true_eq] at h
  exact ⟨h.1.1, h.1.2, by have := h.2; omega⟩
def subD := iI fun i j => i - j
def mulD := iC cMul fun i j => i * j
def fdivD := iC cDiv fun i j => i.fdiv j
def modD := iC cMod fun i j => i.fmod j
def powD := iC cPow fun i j => i ^ j.toNat
def ltD := iB fun i j => decide (i < j)
def leD := iB fun i j => decide (i ≤ j)
def gtD := iB fun i j => decide (j < i)
def geD := iB fun i j => decide (j ≤ i)
theorem sim_sub : Sim2 g (rI0 fun i j => .int (i - j)) subD := sim_iI
theorem sim_mul : Sim2 g (rI CMul fun i j => .int (i * j)) mulD := sim_iC cMul_ok
theorem sim_fdiv : Sim2 g (rI CDivN fun i j => .int (i.fdiv j)) fdivD := sim_iC cDiv_ok
theorem sim_mod : Sim2 g (rI (fun _ j => j ≠ 0) fun i j => .int (i.fmod j)) modD := sim_iC fun i j h => of_decide_eq_true h
theorem sim_pow : Sim2 g (rI CPow fun i j => .int (i ^ j.toNat)) powD := sim_iC cPow_ok
theorem sim_lt : Sim2 g (rI0 fun i j => .bl (decide (i < j))) ltD := sim_iB
theorem sim_le : Sim2 g (rI0 fun i j => .bl (decide (i ≤ j))) leD := sim_iB
theorem sim_gt : Sim2 g (rI0 fun i j => .bl (decide (j < i))) gtD := sim_iB
theorem sim_ge : Sim2 g (rI0 fun i j => .bl (decide (j ≤ i))) geD := sim_iB
/-- a + b: whole numbers, tuples, lists -/
def rAddA (K : PySem.W.Frag) : R2 := fun x y H Q => rI0 (fun i j => .int (i + j)) x y H Q ∨ (rCatA K x y H Q ∨ rCat x y H Q)
theorem op_addA : OpR X (binaryOp .Add) (rAddA X.K) := op_add.or (op_catA.or op_cat)
def addD (a b : D) : Option D := match a, b with
  | .int i, .int j => some (.int (i + j))
  | .tup xs, .tup ys => if xs.length + ys.length ≤ LIM then some (.tup (xs ++ ys)) else none
  | .lst xs, .lst ys => if xs.length + ys.length ≤ LIM then some (.lst (xs ++ ys)) else none
  | _, _ => none
theorem RDs.nil_iff {tk : Nat → Option V} {Z : Addr → Prop} {H : Hp} {ds : List D} {vs : List V} (r : RDs tk Z H ds vs) : vs = [] ↔ ds = [] := by
  cases r with
  | nil => exact ⟨fun _ => rfl, fun _ => rfl⟩
  | cons _ _ => exact ⟨fun h => (by cases h), fun h => (by cases h)⟩
theorem sim_add : Sim2 g (rAddA K) addD := fun Z H ω x y a b d Q G ra rb h hq => by
  cases a <;> cases b <;> first
    | (simp only [addD] at h; cases h; done)
    | (simp only [addD] at h; cases h; exact .inl ⟨_, _, ra.int, rb.int, hq Z _ H .refl (.int _)⟩)
    | skip
  · rename_i xs ys
    simp only [addD] at h
    by_cases hl : xs.length + ys.length ≤ LIM
    · rw [if_pos hl] at h
      cases h
      obtain ⟨p, vs, rfl, hp, r1⟩ := ra.tup
      obtain ⟨q, ws, rfl, hq', r2⟩ := rb.tup
      refine .inr (.inl ⟨p, q, vs, ws, rfl, rfl, SqT.of hp, SqT.of hq', by rw [← r1.length, ← r2.length, ← lim_eq]; exact hl, fun e => ?_, fun e1 e2 => ?_, fun _ _ l hl => ?_⟩)
      · have := r1.nil_iff.mp e
        subst this
        exact hq Z _ H .refl (.tup hq' r2)
      · have := r2.nil_iff.mp e2
        subst this
        rw [List.append_nil] at hq
        exact hq Z _ H .refl (.tup hp r1)
      · exact hq _ _ _ (grow_new hl fix_tup) (rd_newT hl (r1.append r2))
    · rw [if_neg hl] at h; cases h
  · rename_i xs ys
    simp only [addD] at h
    by_cases hl : xs.length + ys.length ≤ LIM
    · rw [if_pos hl] at h
      cases h
      obtain ⟨p, vs, rfl, hp, r1⟩ := ra.lst
      obtain ⟨q, ws, rfl, hq', r2⟩ := rb.lst
      exact .inr (.inr ⟨p, q, vs, ws, rfl, rfl, hp, hq', by rw [← r1.length, ← r2.length, ← lim_eq]; exact hl, fun l hl => hq _ _ _ (grow_new hl fix_lst) (rd_newL hl (r1.append r2))⟩)
    · rw [if_neg hl] at h; cases h
def catF (a b : D) : Option (List D) := match a, b with
  | .lst xs, .lst ys => if xs.length + ys.length ≤ LIM then some (xs ++ ys) else none
  | _, _ => none
theorem simF_cat : SimF2 g rCat catF := fun Z H ω x y a b ds Q G ra rb h hq => by
  cases a <;> cases b <;> first
    | (simp only [catF] at h; cases h; done)
    | skip
  rename_i xs ys
  simp only [catF] at h
  by_cases hl : xs.length + ys.length ≤ LIM
  · rw [if_pos hl] at h
    cases h
    obtain ⟨p, vs, rfl, hp, r1⟩ := ra.lst
    obtain ⟨q, ws, rfl, hq', r2⟩ := rb.lst
    exact ⟨p, q, vs, ws, rfl, rfl, hp, hq', by rw [← r1.length, ← r2.length, ← lim_eq]; exact hl, fun l hl => hq l _ hl (r1.append r2)⟩
  · rw [if_neg hl] at h; cases h
/-- xs * n -/
def repF (a b : D) : Option (List D) := match a, b with
  | .lst xs, .int k => if decide (k < 9223372036854775808) && decide (-9223372036854775808 ≤ k) && decide (xs.length * k.toNat ≤ LIM) then some (List.replicate k.toNat xs).flatten else none
  | _, _ => none
theorem RDs.rep {tk : Nat → Option V} {Z : Addr → Prop} {H : Hp} {ds : List D} {vs : List V} (r : RDs tk Z H ds vs) : ∀ k : Nat, RDs tk Z H (List.replicate k ds).flatten (List.replicate k vs).flatten
  | 0 => .nil
  | k + 1 => by
    rw [List.replicate_succ, List.replicate_succ, List.flatten_cons, List.flatten_cons]
    exact r.append (RDs.rep r k)
theorem simF_rep : SimF2 g rRep repF := fun Z H ω x y a b ds Q G ra rb h hq => by
  cases a <;> cases b <;> first
    | (simp only [repF] at h; cases h; done)
    | skip
  rename_i xs k
  simp only [repF] at h
  by_cases hl : (decide (k < 9223372036854775808) && decide (-9223372036854775808 ≤ k) && decide (xs.length * k.toNat ≤ LIM)) = true
  · rw [if_pos hl] at h
    cases h
    simp only [Bool.and_eq_true, decide_eq_true_eq] at hl
    obtain ⟨p, vs, rfl, hp, r1⟩ := ra.lst
    exact ⟨p, k, vs, rfl, rb.int, hp, by omega, by omega, by rw [← r1.length, ← lim_eq]; exact hl.2, fun l hl => hq l _ hl (r1.rep _)⟩
  · rw [if_neg hl] at h; cases h

/-! unary, built-ins of one thing -/
def negD (a : D) : Option D := match a with
  | .int i => some (.int (-i))
  | _ => none
theorem sim_neg : Sim1 g (rU fun i => .int (-i)) negD := fun Z H ω x a d Q G ra h hq => by
  cases a <;> first
    | (cases h; done)
    | (cases h; exact ⟨_, ra.int, hq Z _ H .refl (.int _)⟩)
def isN (a : D) : Option D := match a with
  | .non => some (.bl true)
  | .tok _ => none
  | _ => some (.bl false)
theorem RD.non_inv {tk : Nat → Option V} {Z : Addr → Prop} {H : Hp} : ∀ {d : D} {v : V}, RD tk Z H d v → v = .non → d = .non ∨ ∃ n, d = .tok n
  | _, _, .non, _ => .inl rfl
  | _, _, .tok n, _ => .inr ⟨_, rfl⟩
  | _, _, .bl _, h => nomatch h
  | _, _, .int _, h => nomatch h
  | _, _, .str _, h => nomatch h
  | _, _, .tup _ _, h => nomatch h
  | _, _, .ptup _ _ _ _, h => nomatch h
  | _, _, .dctF _ _ _, h => nomatch h
  | _, _, .dctG _ _ _, h => nomatch h
  | _, _, .obj _ _, h => nomatch h
theorem BR.nn {Z : Addr → Prop} {H : Hp} {a : D} {x : V} (r : BR g Z H a x) (h : a ≠ .non) (ht : ∀ n, a ≠ .tok n) : decide (x = .non) = false := by
  refine decide_eq_false fun e => ?_
  rcases r with r | ⟨p, e', _⟩
  · rcases r.non_inv e with z | ⟨n, z⟩
    · exact h z
    · exact ht n z
  · rw [e] at e'; cases e'
def rIsN : R2 := fun x y H Q => y = .non ∧ Q (.bl (decide (x = .non))) H
def rNotN : R2 := fun x y H Q => y = .non ∧ Q (.bl (!decide (x = .non))) H
def isN2 (a b : D) : Option D := match b with
  | .non => isN a
  | _ => none
def notN2 (a b : D) : Option D := match b, a with
  | .non, .non => some (.bl false)
  | .non, .tok _ => none
  | .non, _ => some (.bl true)
  | _, _ => none
theorem sim_isN : Sim2 g rIsN isN2 := fun Z H ω x y a b d Q G ra rb h hq => by
  cases b <;> first
    | (simp only [isN2] at h; cases h; done)
    | skip
  refine ⟨rb.non, ?_⟩
  cases a <;> first
    | (simp only [isN2, isN] at h; cases h; done)
    | (simp only [isN2, isN] at h; cases h; rw [ra.non]; exact hq Z _ H .refl (.bl _))
    | (simp only [isN2, isN] at h; cases h; rw [ra.nn (by intro z; cases z) (by intro n z; cases z)]; exact hq Z _ H .refl (.bl _))
theorem sim_notN : Sim2 g rNotN notN2 := fun Z H ω x y a b d Q G ra rb h hq => by
  cases b <;> first
    | (simp only [notN2] at h; cases h; done)
    | skip
  refine ⟨rb.non, ?_⟩
  cases a <;> first
    | (simp only [notN2] at h; cases h; done)
    | (simp only [notN2] at h; cases h; rw [ra.non]; exact hq Z _ H .refl (.bl _))
    | (simp only [notN2] at h; cases h; rw [ra.nn (by intro z; cases z) (by intro n z; cases z)]; exact hq Z _ H .refl (.bl _))
def r1c (r : List V → Hp → VK → Prop) : V → Hp → VK → Prop := fun x H Q => r [x] H Q
def r2c (r : List V → Hp → VK → Prop) : R2 := fun x y H Q => r [x, y] H Q
def absD (a : D) : Option D := match a with
  | .int i => some (.int (if i < 0 then -i else i))
  | _ => none
theorem sim_abs : Sim1 g (r1c fun xs H Q => ∃ i, xs = [.int i] ∧ Q (.int (if i < 0 then -i else i)) H) absD := fun Z H ω x a d Q G ra h hq => by
  cases a <;> first
    | (cases h; done)
    | (cases h; exact ⟨_, by rw [ra.int], hq Z _ H .refl (.int _)⟩)
def intD (a : D) : Option D := match a with
  | .int i => some (.int i)
  | .bl k => some (.int (if k then 1 else 0))
  | _ => none
theorem sim_int : Sim1 g (r1c fun xs H Q => (∃ i, xs = [.int i] ∧ Q (.int i) H) ∨ ∃ k, xs = [.bl k] ∧ Q (.int (if k then 1 else 0)) H) intD := fun Z H ω x a d Q G ra h hq => by
  cases a <;> first
    | (cases h; done)
    | (cases h; exact .inl ⟨_, by rw [ra.int], hq Z _ H .refl (.int _)⟩)
    | (cases h; exact .inr ⟨_, by rw [ra.bl], hq Z _ H .refl (.int _)⟩)
def max2D := iI fun i j => if j > i then j else i
def min2D := iI fun i j => if j < i then j else i
theorem sim_max2 : Sim2 g (r2c fun xs H Q => ∃ i j, xs = [.int i, .int j] ∧ Q (.int (if j > i then j else i)) H) max2D := fun Z H ω x y a b d Q G ra rb h hq => by
  cases a <;> cases b <;> first
    | (cases h; done)
    | (cases h; exact ⟨_, _, by rw [ra.int, rb.int], hq Z _ H .refl (.int _)⟩)
theorem sim_min2 : Sim2 g (r2c fun xs H Q => ∃ i j, xs = [.int i, .int j] ∧ Q (.int (if j < i then j else i)) H) min2D := fun Z H ω x y a b d Q G ra rb h hq => by
  cases a <;> cases b <;> first
    | (cases h; done)
    | (cases h; exact ⟨_, _, by rw [ra.int, rb.int], hq Z _ H .refl (.int _)⟩)
def lenD (a : D) : Option D := match items? a with
  | some xs => some (.int xs.length)
  | none => none
theorem items_br {Z : Addr → Prop} {H : Hp} {a : D} {x : V} {xs : List D} (r : BR g Z H a x) (e : items? a = some xs) : ∃ p vs, x = .ref p ∧ (SqL K H p vs ∨ SqT K H p vs) ∧ RDs g.tk Z H xs vs := by
  cases a <;> first
    | (cases e; done)
    | skip
  · cases e
    obtain ⟨p, vs, rfl, hp, r1⟩ := r.tup
    exact ⟨p, vs, rfl, .inr (SqT.of hp), r1⟩
  · cases e
    obtain ⟨p, vs, o, rfl, zp, hp, nd, r1⟩ := r.ptup
    exact ⟨p, vs, rfl, .inr (SqT.fz hp), r1⟩
  · cases e
    obtain ⟨p, vs, rfl, hp, r1⟩ := r.lst
    exact ⟨p, vs, rfl, .inl (SqL.of hp), r1⟩
theorem sim_len : Sim1 g (r1c fun xs H Q => ∃ p ys, xs = [.ref p] ∧ (SqL K H p ys ∨ SqT K H p ys) ∧ Q (.int ys.length) H) lenD := fun Z H ω x a d Q G ra h hq => by
  unfold lenD at h
  cases e : items? a with
  | none => rw [e] at h; cases h
  | some xs =>
    rw [e] at h; cases h
    obtain ⟨p, vs, rfl, hs, r⟩ := items_br (K := K) ra e
    exact ⟨p, vs, rfl, hs, by rw [← r.length]; exact hq Z _ H .refl (.int _)⟩
/-- xs[i] -/
def ixD (a b : D) : Option D := match items? a, b with
  | some xs, .int i => atI xs i
  | _, _ => none
theorem atI_rd {tk : Nat → Option V} {Z : Addr → Prop} {H : Hp} {ds : List D} {vs : List V} {i : Int} {d : D} (r : RDs tk Z H ds vs) (h : atI ds i = some d) : ∃ v, atI vs i = some v ∧ RD tk Z H d v := by
  unfold atI at h ⊢
  rw [← r.length]
  cases e : ixN ds.length i with
  | none => rw [e] at h; cases h
  | some j =>
    rw [e] at h
    obtain ⟨v, h1, h2⟩ := r.get (show ds[j]? = some d from h)
    exact ⟨v, h1, h2⟩
def rIxA (K : PySem.W.Frag) : R2 := fun x y H Q => rIxL K x y H Q ∨ rIxT K x y H Q
theorem ix_A : IxR X (rIxA X.K) := ix_list.or ix_tup
theorem sim_ix : Sim2 g (rIxA K) ixD := fun Z H ω x y a b d Q G ra rb h hq => by
  unfold ixD at h
  cases e : items? a with
  | none => rw [e] at h; cases h
  | some xs =>
    rw [e] at h
    cases b <;> first
      | (cases h; done)
      | skip
    obtain ⟨p, vs, rfl, hs, r⟩ := items_br (K := K) ra e
    obtain ⟨v, h1, h2⟩ := atI_rd r h
    rcases hs with hs | hs
    · exact .inl ⟨p, vs, _, v, rfl, rb.int, hs, h1, hq Z _ H .refl h2⟩
    · exact .inr ⟨p, vs, _, v, rfl, rb.int, hs, h1, hq Z _ H .refl h2⟩
/-- tuple(xs), list(xs) -/
def tupOf (a : D) : Option D := match a with
  | .ptup _ => none
  | a => match items? a with
    | some xs => some (.tup xs)
    | none => none
theorem sim_tupOf : Sim1 g (r1c fun xs H Q => ∃ p ys, xs = [.ref p] ∧ ((SqL K H p ys ∧ ∀ l, H l = none → Q (.ref l) (upd H l (.tup ys))) ∨ (SqT K H p ys ∧ Q (.ref p) H))) tupOf := fun Z H ω x a d Q G ra h hq => by
  cases a <;> first
    | (simp only [tupOf, items?] at h; cases h; done)
    | skip
  · simp only [tupOf, items?] at h; cases h
    obtain ⟨p, vs, rfl, hp, r1⟩ := ra.tup
    exact ⟨p, vs, rfl, .inr ⟨SqT.of hp, hq Z _ H .refl (.tup hp r1)⟩⟩
  · simp only [tupOf, items?] at h; cases h
    obtain ⟨p, vs, rfl, hp, r1⟩ := ra.lst
    exact ⟨p, vs, rfl, .inl ⟨SqL.of hp, fun l hl => hq _ _ _ (grow_new hl fix_tup) (rd_newT hl r1)⟩⟩
theorem simF_listOf : SimF1 g (r1c fun xs H Q => ∃ p ys, xs = [.ref p] ∧ (SqL K H p ys ∨ SqT K H p ys) ∧ ∀ l, H l = none → Q (.ref l) (upd H l (.lst ys))) items? := fun Z H ω x a ds Q G ra h hq => by
  obtain ⟨p, vs, rfl, hs, r⟩ := items_br (K := K) ra h
  exact ⟨p, vs, rfl, hs, fun l hl => hq l _ hl r⟩
/-- sum(xs) -/
def ints? : List D → Option (List Int)
  | [] => some []
  | .int i :: r => (ints? r).map (i :: ·)
  | _ :: _ => none
theorem ints_of : ∀ {ds : List D} {is : List Int}, ints? ds = some is → ds = is.map D.int
  | [], is, h => by cases h; rfl
  | .int i :: r, is, h => by
    simp only [ints?] at h
    cases e : ints? r with
    | none => rw [e] at h; cases h
    | some js => rw [e] at h; cases h; rw [ints_of e]; rfl
  | .non :: r, _, h => by cases h
  | .bl _ :: r, _, h => by cases h
  | .str _ :: r, _, h => by cases h
  | .tok _ :: r, _, h => by cases h
  | .tup _ :: r, _, h => by cases h
  | .lst _ :: r, _, h => by cases h
  | .dct _ :: r, _, h => by cases h
  | .dctT _ :: r, _, h => by cases h
  | .dctF _ :: r, _, h => by cases h
  | .dctG _ :: r, _, h => by cases h
def sumD (a : D) : Option D := match a with
  | .lst xs => match ints? xs with
    | some is => some (.int is.sum)
    | none => none
  | _ => none
theorem sim_sum : Sim1 g (r1c (rSum K)) sumD := fun Z H ω x a d Q G ra h hq => by
  cases a <;> first
    | (simp only [sumD] at h; cases h; done)
    | skip
  rename_i xs
  simp only [sumD] at h
  cases e : ints? xs with
  | none => rw [e] at h; cases h
  | some is =>
    rw [e] at h; cases h
    obtain ⟨p, vs, rfl, hp, r1⟩ := ra.lst
    have := ints_of e
    subst this
    rcases r1.ints with e | e
    · subst e
      exact ⟨p, is, rfl, SqL.of hp, hq Z _ H .refl (.int _)⟩
    · exact e.elim
end
end L2.Fl

namespace L2.Fl
open PySem PySem.Spec PyProof.Rows

/-! ### statements -/
/-- what was frozen is so, and as it was -/
structure Kp (Z : Addr → Prop) (H : Hp) (Z' : Addr → Prop) (H' : Hp) : Prop where
  sub : ∀ p, Z p → Z' p
  keep : ∀ p o, ZT Z H p → H p = some o → H' p = some o
theorem Kp.refl {Z : Addr → Prop} {H : Hp} : Kp Z H Z H := ⟨fun _ z => z, fun _ _ _ h => h⟩
theorem Kp.trans {Z Z1 Z2 : Addr → Prop} {H H1 H2 : Hp} (a : Kp Z H Z1 H1) (b : Kp Z1 H1 Z2 H2) : Kp Z H Z2 H2 := ⟨fun p z => b.sub p (a.sub p z), fun p o z h => b.keep p o (z.elim (fun z => .inl (a.sub p z)) fun ⟨vs, q⟩ => .inr ⟨vs, a.keep p _ z q⟩) (a.keep p o z h)⟩
theorem Kp.of {g : Gd} {Z Z' : Addr → Prop} {H H' : Hp} {ω : W3} (k : Good g Z H ω) (zz : ∀ p, Z p → Z' p) (e : Ext g H H') : Kp Z H Z' H' := ⟨zz, k.kept e⟩
theorem RD.kp {tk : Nat → Option V} {Z Z' : Addr → Prop} {H H' : Hp} (k : Kp Z H Z' H') {d : D} {v : V} (r : RD tk Z H d v) : RD tk Z' H' d v := r.mono k.sub k.keep
theorem RDs.kp {tk : Nat → Option V} {Z Z' : Addr → Prop} {H H' : Hp} (k : Kp Z H Z' H') {d : List D} {v : List V} (r : RDs tk Z H d v) : RDs tk Z' H' d v := r.mono k.sub k.keep
def Post (B : Bc) (D : Ends) (Z : Addr → Prop) (H : Hp) (o : SO) : Prop := match o with
  | .nx ρ ω => ∀ (Z' : Addr → Prop) (σ' : St) (H' : Hp), Kp Z H Z' H' → J B Z' ρ σ' H' ω → D.nx σ' H'
  | .rt d ω => ∀ (Z' : Addr → Prop) (ρ : Fr) (σ' : St) (v : V) (H' : Hp), J B Z' ρ σ' H' ω → RD B.g.tk Z' H' d v → D.rt v H'
  | .bk ρ ω => ∀ (Z' : Addr → Prop) (σ' : St) (H' : Hp), Kp Z H Z' H' → J B Z' ρ σ' H' ω → D.bk σ' H'
  | .ct ρ ω => ∀ (Z' : Addr → Prop) (σ' : St) (H' : Hp), Kp Z H Z' H' → J B Z' ρ σ' H' ω → D.ct σ' H'
  | .exc c ω => B.Ex c ω
  | .bad => False
theorem Post.kp {B : Bc} {D : Ends} {Z Z' : Addr → Prop} {H H' : Hp} {o : SO} (k : Kp Z H Z' H') (q : Post B D Z H o) : Post B D Z' H' o := by
  cases o with
  | nx ρ ω => exact fun Z2 σ2 H2 k2 j => q Z2 σ2 H2 (k.trans k2) j
  | bk ρ ω => exact fun Z2 σ2 H2 k2 j => q Z2 σ2 H2 (k.trans k2) j
  | ct ρ ω => exact fun Z2 σ2 H2 k2 j => q Z2 σ2 H2 (k.trans k2) j
  | rt d ω => exact q
  | exc c ω => exact q
  | bad => exact q
def RdS (B : Bc) (s : SM) : TS := fun D σ H => ∃ Z ρ ω, J B Z ρ σ H ω ∧ Post B D Z H (s ρ ω)
def SO.andThen (o : SO) (k : SM) : SO := match o with
  | .nx ρ ω => k ρ ω
  | o => o
def seqS (s t : SM) : SM := fun ρ ω => (s ρ ω).andThen t
def skipS : SM := fun ρ ω => .nx ρ ω
def Out.stm {α : Type} (o : Out α) (k : α → Fr → W3 → SO) : SO := match o with
  | .ok a ρ ω => k a ρ ω
  | .exc c ω => .exc c ω
  | .bad => .bad
section
variable {X : Cx} {B : Bc} {e a b c : Expr} {pos : Pos} {st : Stmt} {rest body orelse : List Stmt}
theorem s_nil : PSs X [] (RdS B skipS) := PSs.imp pss_nil fun D σ H ⟨Z, ρ, ω, j, q⟩ => q Z σ H .refl j
theorem s_cons {s t : SM} (h1 : PS X st (RdS B s)) (h2 : PSs X rest (RdS B t)) : PSs X (st :: rest) (RdS B (seqS s t)) := PSs.imp (pss_cons h1 h2) fun D σ H ⟨Z, ρ, ω, j, q⟩ => by
  refine ⟨Z, ρ, ω, j, ?_⟩
  unfold seqS at q
  cases es : s ρ ω with
  | nx ρ' ω' =>
    simp only [es, SO.andThen] at q
    exact fun Z' σ' H' k' j' => ⟨Z', ρ', ω', j', q.kp k'⟩
  | rt d ω' => simp only [es, SO.andThen] at q; exact q
  | bk ρ' ω' => simp only [es, SO.andThen] at q; exact q
  | ct ρ' ω' => simp only [es, SO.andThen] at q; exact q
  | exc c ω' => simp only [es, SO.andThen] at q; exact q
  | bad => simp only [es, SO.andThen] at q; exact q
theorem s_one {s : SM} (h1 : PS X st (RdS B s)) : PSs X [st] (RdS B s) := pss_one h1
def bkS : SM := fun ρ ω => .bk ρ ω
def ctS : SM := fun ρ ω => .ct ρ ω
theorem s_pass : PS X (.Pass pos) (RdS B skipS) := PS.imp ps_pass fun D σ H ⟨Z, ρ, ω, j, q⟩ => q Z σ H .refl j
theorem s_break : PS X (.Break pos) (RdS B bkS) := PS.imp ps_break fun D σ H ⟨Z, ρ, ω, j, q⟩ => q Z σ H .refl j
theorem s_continue : PS X (.Continue pos) (RdS B ctS) := PS.imp ps_continue fun D σ H ⟨Z, ρ, ω, j, q⟩ => q Z σ H .refl j
def exS (f : EM D) : SM := fun ρ ω => (f ρ ω).stm fun _ ρ ω => .nx ρ ω
theorem s_expr {f : EM D} (he : PE X e (RdE B f)) (hs : swapsWith e none pos.line X.env = pure false := by rfl) : PS X (.Expr e pos) (RdS B (exS f)) := PS.imp (ps_expr he hs) fun D σ H ⟨Z, ρ, ω, j, q⟩ => by
  refine ⟨Z, ρ, ω, j, ?_⟩
  unfold exS at q
  cases ea : f ρ ω with
  | bad => simp only [ea, Out.stm] at q; exact q
  | exc c ω' => simp only [ea, Out.stm] at q; exact q
  | ok d ρ1 ω1 =>
    simp only [ea, Out.stm] at q
    exact fun Z1 v H1 e1 z1 j1 r1 => q Z1 σ H1 (.of j.good z1 e1) j1
def rtS (f : EM D) : SM := fun ρ ω => (f ρ ω).stm fun d _ ω => .rt d ω
theorem s_ret {f : EM D} (he : PE X e (RdE B f)) : PS X (.Return (some e) pos) (RdS B (rtS f)) := PS.imp (ps_ret he) fun D σ H ⟨Z, ρ, ω, j, q⟩ => by
  refine ⟨Z, ρ, ω, j, ?_⟩
  unfold rtS at q
  cases ea : f ρ ω with
  | bad => simp only [ea, Out.stm] at q; exact q
  | exc c ω' => simp only [ea, Out.stm] at q; exact q
  | ok d ρ1 ω1 =>
    simp only [ea, Out.stm] at q
    exact fun Z1 v H1 e1 z1 j1 r1 => q Z1 ρ1 σ v H1 j1 r1
def ifS (t : EM Bool) (s u : SM) : SM := fun ρ ω => (t ρ ω).stm fun b ρ ω => match b with
  | true => s ρ ω
  | false => u ρ ω
theorem s_if {t : EM Bool} {s u : SM} (hc : PT X c (RdT B t)) (ha : PSs X body (RdS B s)) (hb : PSs X orelse (RdS B u)) : PS X (.If c body orelse pos) (RdS B (ifS t s u)) := PS.imp (ps_if hc ha hb) fun D σ H ⟨Z, ρ, ω, j, q⟩ => by
  refine ⟨Z, ρ, ω, j, ?_⟩
  unfold ifS at q
  cases ea : t ρ ω with
  | bad => simp only [ea, Out.stm] at q; exact q
  | exc c ω' => simp only [ea, Out.stm] at q; exact q
  | ok k ρ1 ω1 =>
    simp only [ea, Out.stm] at q
    intro Z1 H1 e1 z1 j1
    cases k with
    | true => simp only at q; simp only [if_true]; exact ⟨Z1, ρ1, ω1, j1, q.kp (.of j.good z1 e1)⟩
    | false => simp only at q; simp only [Bool.false_eq_true, if_false]; exact ⟨Z1, ρ1, ω1, j1, q.kp (.of j.good z1 e1)⟩

/-! names stored -/
theorem J.setVal {Z : Addr → Prop} {ρ : Fr} {σ : St} {H : Hp} {ω : W3} {i : Nat} {d : D} {v : V} (j : J B Z ρ σ H ω) (r : RD B.g.tk Z H d v) : J B Z (ρ.set i (.val d)) (σ.set i (some v)) H ω := by
  refine ⟨j.good, j.ext, j.z0, j.zn, by simp [j.len], fun k e ek => ?_, fun k e ek => ?_, j.res, fun k l e f q ek el hk hl => ?_⟩
  · by_cases hk : i = k
    · subst hk
      have hi : i < ρ.length := by
        have := (List.getElem?_eq_some_iff.mp ek).1
        simpa using this
      rw [List.getElem?_set_self hi] at ek
      cases ek
      rw [List.getElem?_set_self (by rw [← j.len]; exact hi)]
      exact ⟨v, rfl, r⟩
    · rw [List.getElem?_set_ne hk] at ek
      rw [List.getElem?_set_ne hk]
      exact j.val k e ek
  · by_cases hk : i = k
    · subst hk
      have hi : i < ρ.length := by
        have := (List.getElem?_eq_some_iff.mp ek).1
        simpa using this
      rw [List.getElem?_set_self hi] at ek
      cases ek
    · rw [List.getElem?_set_ne hk] at ek
      rw [List.getElem?_set_ne hk]
      exact j.own k e ek
  · by_cases hki : i = k
    · subst hki
      have hi : i < ρ.length := by
        have := (List.getElem?_eq_some_iff.mp ek).1
        simpa using this
      rw [List.getElem?_set_self hi] at ek
      cases ek
    · by_cases hli : i = l
      · subst hli
        have hi : i < ρ.length := by
          have := (List.getElem?_eq_some_iff.mp el).1
          simpa using this
        rw [List.getElem?_set_self hi] at el
        cases el
      · rw [List.getElem?_set_ne hki] at ek hk
        rw [List.getElem?_set_ne hli] at el hl
        exact j.sep k l e f q ek el hk hl
theorem J.setOwn {Z : Addr → Prop} {ρ : Fr} {σ : St} {H : Hp} {ω : W3} {i : Nat} {d : D} {p : Addr} (j : J B Z ρ σ H ω) (r : RO B.g.tk Z H d p) (nz : ¬ Z p) (np : B.g.pd ≠ some p) (h0 : B.H0 p = none) (nr : ¬ B.Rz p)
    (hn : ∀ (k : Nat) (e : D), ρ[k]? = some (.own e) → σ[k]? ≠ some (some (.ref p))) : J B Z (ρ.set i (.own d)) (σ.set i (some (.ref p))) H ω := by
  refine ⟨j.good, j.ext, j.z0, j.zn, by simp [j.len], fun k e ek => ?_, fun k e ek => ?_, j.res, fun k l e f q ek el hk hl => ?_⟩
  · by_cases hk : i = k
    · subst hk
      have hi : i < ρ.length := by
        have := (List.getElem?_eq_some_iff.mp ek).1
        simpa using this
      rw [List.getElem?_set_self hi] at ek
      cases ek
    · rw [List.getElem?_set_ne hk] at ek
      rw [List.getElem?_set_ne hk]
      exact j.val k e ek
  · by_cases hk : i = k
    · subst hk
      have hi : i < ρ.length := by
        have := (List.getElem?_eq_some_iff.mp ek).1
        simpa using this
      rw [List.getElem?_set_self hi] at ek
      cases ek
      rw [List.getElem?_set_self (by rw [← j.len]; exact hi)]
      exact ⟨p, rfl, r, nz, np, h0, nr⟩
    · rw [List.getElem?_set_ne hk] at ek
      rw [List.getElem?_set_ne hk]
      exact j.own k e ek
  · by_cases hki : i = k
    · subst hki
      have hi : i < ρ.length := by
        have := (List.getElem?_eq_some_iff.mp ek).1
        simpa using this
      by_cases hli : i = l
      · exact hli
      · rw [List.getElem?_set_self (by rw [← j.len]; exact hi)] at hk
        cases hk
        rw [List.getElem?_set_ne hli] at el hl
        exact absurd hl (hn l f el)
    · by_cases hli : i = l
      · subst hli
        have hi : i < ρ.length := by
          have := (List.getElem?_eq_some_iff.mp el).1
          simpa using this
        rw [List.getElem?_set_self (by rw [← j.len]; exact hi)] at hl
        cases hl
        rw [List.getElem?_set_ne hki] at ek hk
        exact absurd hk (hn k e ek)
      · rw [List.getElem?_set_ne hki] at ek hk
        rw [List.getElem?_set_ne hli] at el hl
        exact j.sep k l e f q ek el hk hl
/-- one's own thing at i is changed -/
theorem J.mut {Z : Addr → Prop} {ρ : Fr} {σ : St} {H : Hp} {ω : W3} {i : Nat} {d d' : D} {p : Addr} {o : HO} (j : J B Z ρ σ H ω) (ei : ρ[i]? = some (.own d)) (es : σ[i]? = some (some (.ref p))) (r : RO B.g.tk Z (upd H p o) d' p) (hf : Fix o) :
    J B Z (ρ.set i (.own d')) σ (upd H p o) ω := by
  obtain ⟨p', h1, h2, nz, np, h0, nr⟩ := j.own i d ei
  rw [es] at h1
  cases h1
  have hi : i < ρ.length := (List.getElem?_eq_some_iff.mp ei).1
  have kz : ∀ q u, ZT Z H q → H q = some u → upd H p o q = some u := fun q u z h => by
    have hn : q ≠ p := by
      rintro rfl
      rcases z with z | ⟨us, z⟩
      · exact nz z
      · exact h2.nt us z
    rw [upd_ne hn]; exact h
  obtain ⟨o0, ho0, hf0, hx0⟩ := h2.there2
  refine ⟨⟨fun q z => ?_, fun q' e' => by rw [upd_ne (fun (z : q' = p) => np (by rw [e', z]))]; exact j.good.dice q' e', fun P hP => ?_⟩, ⟨fun q u h n f => ?_, fun q h => ?_⟩, j.z0, j.zn, by simp [j.len], fun k e ek => ?_, fun k e ek => ?_, fun q rr => ⟨(j.res q rr).1, fun z => ?_⟩, fun k l e f q ek el hk hl => ?_⟩
  · obtain ⟨n, u, h, f⟩ := j.good.zs q z
    exact ⟨n, u, kz q u (.inl z) h, f⟩
  · exact (j.good.tabs P hP).upd ho0 hf0 hx0
  · by_cases hq : q = p
    · subst hq; rw [h0] at h; cases h
    · rw [upd_ne hq]; exact j.ext.keep q u h n f
  · by_cases hq : q = p
    · subst hq; exact h0
    · rw [upd_ne hq] at h; exact j.ext.dom q h
  · by_cases hk : i = k
    · subst hk
      rw [List.getElem?_set_self hi] at ek
      cases ek
    · rw [List.getElem?_set_ne hk] at ek
      obtain ⟨v, q1, q2⟩ := j.val k e ek
      exact ⟨v, q1, q2.mono (fun _ z => z) kz⟩
  · by_cases hk : i = k
    · subst hk
      rw [List.getElem?_set_self hi] at ek
      cases ek
      exact ⟨p, es, r, nz, np, h0, nr⟩
    · rw [List.getElem?_set_ne hk] at ek
      obtain ⟨q, q1, q2, q3, q4, q5, q6⟩ := j.own k e ek
      have hqp : q ≠ p := by
        rintro rfl
        exact hk (j.sep i k d e q ei ek es q1)
      exact ⟨q, q1, q2.mono (fun _ z => z) kz (fun u h => by rw [upd_ne hqp]; exact h), q3, q4, q5, q6⟩
  · by_cases hq : q = p
    · subst hq; exact nr rr
    · rw [upd_ne hq] at z; exact (j.res q rr).2 z
  · by_cases hki : i = k
    · by_cases hli : i = l
      · rw [← hki, ← hli]
      · subst hki
        rw [List.getElem?_set_ne hli] at el
        exact j.sep i l d f q ei el hk hl
    · rw [List.getElem?_set_ne hki] at ek
      by_cases hli : i = l
      · subst hli
        exact j.sep k i e d q ek ei hk hl
      · rw [List.getElem?_set_ne hli] at el
        exact j.sep k l e f q ek el hk hl

def setS (i : Nat) (f : EM D) : SM := fun ρ ω => (f ρ ω).stm fun d ρ ω => .nx (ρ.set i (.val d)) ω
theorem i_set {i : Nat} {f : EM D} : ∀ D σ H, RdS B (setS i f) D σ H → tAsg (RdE B f) (gName i) D σ H := fun D σ H ⟨Z, ρ, ω, j, q⟩ => by
  refine ⟨Z, ρ, ω, j, ?_⟩
  unfold setS at q
  cases ea : f ρ ω with
  | bad => simp only [ea, Out.stm] at q; exact q
  | exc c ω' => simp only [ea, Out.stm] at q; exact q
  | ok d ρ1 ω1 =>
    simp only [ea, Out.stm] at q
    exact fun Z1 v H1 e1 z1 j1 r1 => q Z1 _ H1 (.of j.good z1 e1) (j1.setVal r1)
theorem s_set {i : Nat} {f : EM D} (h : PS X st (tAsg (RdE B f) (gName i))) : PS X st (RdS B (setS i f)) := PS.imp h i_set
def ownS (i : Nat) (f : EM (List D)) : SM := fun ρ ω => (f ρ ω).stm fun ds ρ ω => .nx (ρ.set i (.own (.lst ds))) ω
theorem i_own {i : Nat} {f : EM (List D)} : ∀ D σ H, RdS B (ownS i f) D σ H → tAsg (RdF B f) (gName i) D σ H := fun D σ H ⟨Z, ρ, ω, j, q⟩ => by
  refine ⟨Z, ρ, ω, j, ?_⟩
  unfold ownS at q
  cases ea : f ρ ω with
  | bad => simp only [ea, Out.stm] at q; exact q
  | exc c ω' => simp only [ea, Out.stm] at q; exact q
  | ok d ρ1 ω1 =>
    simp only [ea, Out.stm] at q
    exact fun Z1 p vs H1 e1 z1 j1 hp r1 nz np h0 nr hn => q Z1 _ H1 (.of j.good z1 e1) (j1.setOwn (.lst hp r1) nz np h0 nr hn)
theorem s_own {i : Nat} {f : EM (List D)} (h : PS X st (tAsg (RdF B f) (gName i))) : PS X st (RdS B (ownS i f)) := PS.imp h i_own

/-- x += e, whole numbers -/
def augS (i : Nat) (p : Int → Int → Int) (f : EM D) : SM := fun ρ ω => match ρ[i]? with
  | some (.val (.int n)) => (f ρ ω).stm fun d ρ ω => match d with
    | .int m => .nx (ρ.set i (.val (.int (p n m)))) ω
    | _ => .bad
  | _ => .bad
theorem s_aug {i : Nat} {p : Int → Int → Int} {f : EM D} (h : PS X st (tAug i (RdE B f) (ipI p))) : PS X st (RdS B (augS i p f)) := PS.imp h fun D σ H ⟨Z, ρ, ω, j, q⟩ => by
  unfold augS at q
  cases ei : ρ[i]? with
  | none => simp only [ei] at q; exact q.elim
  | some s =>
    cases s with
    | no => simp only [ei] at q; exact q.elim
    | own d => simp only [ei] at q; exact q.elim
    | val d =>
      cases d with
      | int n =>
        simp only [ei] at q
        obtain ⟨v, h1, h2⟩ := j.val i _ ei
        have := BR.int (g := B.g) (.inl h2)
        subst this
        refine ⟨.int n, h1, Z, ρ, ω, j, ?_⟩
        cases ea : f ρ ω with
        | bad => simp only [ea, Out.stm] at q; exact q
        | exc c ω' => simp only [ea, Out.stm] at q; exact q
        | ok d ρ1 ω1 =>
          simp only [ea, Out.stm] at q
          intro Z1 v H1 e1 z1 j1 r1
          cases d with
          | int m =>
            have := BR.int (g := B.g) (.inl r1)
            subst this
            exact ⟨n, m, rfl, rfl, q Z1 _ H1 (.of j.good z1 e1) (j1.setVal (.int _))⟩
          | _ => exact q.elim
      | _ => simp only [ei] at q; exact q.elim

/-! methods of one's own list -/
/-- xs.append(e) -/
def appS (i : Nat) (f : EM D) : SM := fun ρ ω => match ρ[i]? with
  | some (.own (.lst _)) => (f ρ ω).stm fun d ρ ω => match ρ[i]? with
    | some (.own (.lst ds)) => if ds.length < LIM then .nx (ρ.set i (.own (.lst (ds ++ [d])))) ω else .bad
    | _ => .bad
  | _ => .bad
theorem J.lstAt {Z : Addr → Prop} {ρ : Fr} {σ : St} {H : Hp} {ω : W3} {i : Nat} {ds : List D} (j : J B Z ρ σ H ω) (ei : ρ[i]? = some (.own (.lst ds))) :
    ∃ p vs, σ[i]? = some (some (.ref p)) ∧ H p = some (.lst vs) ∧ RDs B.g.tk Z H ds vs ∧ ¬ Z p := by
  obtain ⟨p, h1, h2, h3, _⟩ := j.own i _ ei
  cases h2 with
  | lst h r => exact ⟨p, _, h1, h, r, h3⟩
theorem kp_upd {Z : Addr → Prop} {H : Hp} {p : Addr} {o : HO} (nz : ¬ Z p) (nt : ∀ us, H p ≠ some (.tup us) := by intro us z; simp_all) : Kp Z H Z (upd H p o) := ⟨fun _ z => z, fun q u z h => by
  have hn : q ≠ p := by
    rintro rfl
    rcases z with z | ⟨us, z⟩
    · exact nz z
    · exact nt us z
  rw [upd_ne hn]; exact h⟩
theorem RDs.upd {g : Gd} {Z : Addr → Prop} {H : Hp} {p : Addr} {o : HO} {ds : List D} {vs : List V} (nz : ¬ Z p) (r : RDs g.tk Z H ds vs) (nt : ∀ us, H p ≠ some (.tup us) := by intro us z; simp_all) : RDs g.tk Z (upd H p o) ds vs :=
  r.mono (fun _ z => z) fun q u z h => by
    have hn : q ≠ p := by
      rintro rfl
      rcases z with z | ⟨us, z⟩
      · exact nz z
      · exact nt us z
    rw [upd_ne hn]; exact h
theorem RD.set' {g : Gd} {Z : Addr → Prop} {H : Hp} {ds : List D} {vs : List V} {d : D} {v : V} (r : RD g.tk Z H d v) (i : Nat) (s : RDs g.tk Z H ds vs) : RDs g.tk Z H (ds.set i d) (vs.set i v) := s.set i r
theorem RD.upd {g : Gd} {Z : Addr → Prop} {H : Hp} {p : Addr} {o : HO} {d : D} {v : V} (nz : ¬ Z p) (r : RD g.tk Z H d v) (nt : ∀ us, H p ≠ some (.tup us) := by intro us z; simp_all) : RD g.tk Z (upd H p o) d v :=
  r.mono (fun _ z => z) fun q u z h => by
    have hn : q ≠ p := by
      rintro rfl
      rcases z with z | ⟨us, z⟩
      · exact nz z
      · exact nt us z
    rw [upd_ne hn]; exact h
theorem s_app {i : Nat} {f : EM D} (h : PS X st (tDrop (tBM X.K "list" rAppend (tVar i) (tCons (RdE B f) tNil)))) : PS X st (RdS B (appS i f)) := PS.imp h fun D σ H ⟨Z, ρ, ω, j, q⟩ => by
  unfold appS at q
  split at q
  · rename_i ds0 ei
    obtain ⟨p, vs0, h1, h2, h3, h4⟩ := j.lstAt ei
    refine ⟨.ref p, h1, .inl ⟨rfl, _, SqL.of h2⟩, Z, ρ, ω, j, ?_⟩
    cases ea : f ρ ω with
    | bad => simp only [ea, Out.stm] at q; exact q
    | exc c ω' => simp only [ea, Out.stm] at q; exact q
    | ok d ρ1 ω1 =>
      simp only [ea, Out.stm] at q
      intro Z1 v H1 e1 z1 j1 r1
      split at q
      · rename_i ds ei1
        by_cases hl : ds.length < LIM
        · rw [if_pos hl] at q
          obtain ⟨p', vs, g1, g2, g3, g4⟩ := j1.lstAt ei1
          rw [h1] at g1
          cases g1
          refine ⟨p, vs, v, rfl, rfl, g2, by rw [← g3.length, ← lim_eq]; exact hl, q Z1 σ _ ((Kp.of j.good z1 e1).trans (kp_upd g4)) (j1.mut ei1 h1 (.lst upd_same ?_) fix_lst)⟩
          exact (g3.append (.cons r1 .nil)).upd g4
        · rw [if_neg hl] at q; exact q.elim
      · exact q.elim
  · exact q.elim
/-- xs[k] = e -/
def setIxS (i : Nat) (k f : EM D) : SM := fun ρ ω => (f ρ ω).stm fun d ρ ω => match ρ[i]? with
  | some (.own (.lst _)) => (k ρ ω).stm fun n ρ ω => match ρ[i]?, n with
    | some (.own (.lst ds)), .int m => (match ixN ds.length m with
      | some j => .nx (ρ.set i (.own (.lst (ds.set j d)))) ω
      | none => .bad)
    | _, _ => .bad
  | _ => .bad
theorem i_setIx {i : Nat} {k f : EM D} : ∀ D σ H, RdS B (setIxS i k f) D σ H → tAsg (RdE B f) (gSub (tVar i) (RdE B k) rSetL) D σ H := fun D σ H ⟨Z, ρ, ω, j, q⟩ => by
  refine ⟨Z, ρ, ω, j, ?_⟩
  unfold setIxS at q
  cases ea : f ρ ω with
  | bad => simp only [ea, Out.stm] at q; exact q
  | exc c ω' => simp only [ea, Out.stm] at q; exact q
  | ok d ρ1 ω1 =>
    simp only [ea, Out.stm] at q
    intro Z1 v H1 e1 z1 j1 r1
    split at q
    · rename_i ds0 ei
      obtain ⟨p, vs0, h1, h2, h3, h4⟩ := j1.lstAt ei
      refine ⟨.ref p, h1, Z1, ρ1, ω1, j1, ?_⟩
      cases eb : k ρ1 ω1 with
      | bad => simp only [eb] at q; exact q.elim
      | exc c ω' => simp only [eb] at q; exact q
      | ok n ρ2 ω2 =>
        simp only [eb] at q
        intro Z2 y H2 e2 z2 j2 r2
        split at q
        · rename_i ds m ei2
          split at q
          · rename_i jj ej
            obtain ⟨p', vs, g1, g2, g3, g4⟩ := j2.lstAt ei2
            rw [h1] at g1
            cases g1
            have := BR.int (g := B.g) (.inl r2)
            subst this
            refine ⟨p, vs, m, jj, rfl, rfl, g2, by rw [← g3.length]; exact ej, q Z2 σ _ ((Kp.of j.good z1 e1).trans ((Kp.of j1.good z2 e2).trans (kp_upd g4))) (j2.mut ei2 h1 (.lst upd_same ?_) fix_lst)⟩
            exact ((r1.ext j1.good z2 e2).set' jj g3).upd g4
          · exact q.elim
        · exact q.elim
    · exact q.elim
theorem s_setIx {i : Nat} {k f : EM D} (h : PS X st (tAsg (RdE B f) (gSub (tVar i) (RdE B k) rSetL))) : PS X st (RdS B (setIxS i k f)) := PS.imp h i_setIx
/-- x = xs.pop(), x = xs.pop(k) -/
def popS (x i : Nat) : SM := fun ρ ω => match ρ[i]? with
  | some (.own (.lst ds)) => (match ds.getLast? with
    | some d => .nx ((ρ.set i (.own (.lst ds.dropLast))).set x (.val d)) ω
    | none => .bad)
  | _ => .bad
theorem last_at {α : Type} {xs : List α} {x : α} (h : xs.getLast? = some x) : xs[xs.length - 1]? = some x := by
  rw [← List.getLast?_eq_getElem?]; exact h
theorem RDs.dropLast {tk : Nat → Option V} {Z : Addr → Prop} {H : Hp} {ds : List D} {vs : List V} (r : RDs tk Z H ds vs) : RDs tk Z H ds.dropLast vs.dropLast := by
  rw [List.dropLast_eq_take, List.dropLast_eq_take, r.length]
  exact r.take _
theorem s_pop {x i : Nat} (h : PS X st (tAsg (tBM0 X.K "list" rPop (tVar i)) (gName x))) : PS X st (RdS B (popS x i)) := PS.imp h fun D σ H ⟨Z, ρ, ω, j, q⟩ => by
  unfold popS at q
  split at q
  · rename_i ds ei
    split at q
    · rename_i d ed
      obtain ⟨p, vs, h1, h2, h3, h4⟩ := j.lstAt ei
      obtain ⟨v, g1, g2⟩ := h3.get (last_at ed)
      refine ⟨.ref p, h1, .inl ⟨rfl, _, SqL.of h2⟩, p, vs, v, rfl, rfl, h2, by rw [← h3.length]; exact g1, ?_⟩
      have j1 := j.mut (d' := .lst ds.dropLast) (o := .lst vs.dropLast) ei h1 (.lst upd_same (h3.dropLast.upd h4)) fix_lst
      exact q Z _ _ (kp_upd h4) (j1.setVal (g2.upd h4))
    · exact q.elim
  · exact q.elim
/-- xs.pop() as a statement -/
def popDropS (i : Nat) : SM := fun ρ ω => match ρ[i]? with
  | some (.own (.lst ds)) => (match ds.getLast? with
    | some d => .nx (ρ.set i (.own (.lst ds.dropLast))) ω
    | none => .bad)
  | _ => .bad
theorem s_popDrop {i : Nat} (h : PS X st (tDrop (tBM0 X.K "list" rPop (tVar i)))) : PS X st (RdS B (popDropS i)) := PS.imp h fun D σ H ⟨Z, ρ, ω, j, q⟩ => by
  unfold popDropS at q
  split at q
  · rename_i ds ei
    split at q
    · rename_i d ed
      obtain ⟨p, vs, h1, h2, h3, h4⟩ := j.lstAt ei
      obtain ⟨v, g1, g2⟩ := h3.get (last_at ed)
      refine ⟨.ref p, h1, .inl ⟨rfl, _, SqL.of h2⟩, p, vs, v, rfl, rfl, h2, by rw [← h3.length]; exact g1, ?_⟩
      exact q Z _ _ (kp_upd h4) (j.mut (d' := .lst ds.dropLast) (o := .lst vs.dropLast) ei h1 (.lst upd_same (h3.dropLast.upd h4)) fix_lst)
    · exact q.elim
  · exact q.elim
end
end L2.Fl

namespace L2.Fl
open PySem PySem.Spec PyProof.Rows

section
variable {X : Cx} {B : Bc} {e a b c tg iter elt : Expr} {pos : Pos} {st : Stmt} {rest body orelse : List Stmt}

/-! ### while -/
def whileS (t : EM Bool) (s : SM) : Nat → SM
  | 0 => fun _ _ => .bad
  | n + 1 => fun ρ ω => (t ρ ω).stm fun b ρ ω => match b with
    | false => .nx ρ ω
    | true => match s ρ ω with
      | .nx ρ ω => whileS t s n ρ ω
      | .ct ρ ω => whileS t s n ρ ω
      | .bk ρ ω => .nx ρ ω
      | o => o
theorem s_while {t : EM Bool} {s : SM} (n : Nat) (hp : PassesOwn (model X.prog X.w) X.A X.env X.xe) (hc : PT X c (RdT B t)) (hb : PSs X body (RdS B s)) : PS X (.While c body [] pos) (RdS B (whileS t s n)) :=
  PS.imp (ps_while hp hc hb) fun D σ H ⟨Z, ρ, ω, j, q⟩ => by
  refine ⟨fun m σ H => ∃ Z ρ ω, J B Z ρ σ H ω ∧ Post B D Z H (whileS t s m ρ ω), ⟨n, Z, ρ, ω, j, q⟩, ?_⟩
  rintro m σ H ⟨Z, ρ, ω, j, q⟩
  cases m with
  | zero => exact q.elim
  | succ m =>
    refine ⟨Z, ρ, ω, j, ?_⟩
    unfold whileS at q
    cases ea : t ρ ω with
    | bad => simp only [ea, Out.stm] at q; exact q
    | exc c ω' => simp only [ea, Out.stm] at q; exact q
    | ok k ρ1 ω1 =>
      simp only [ea, Out.stm] at q
      intro Z1 H1 e1 z1 j1
      have k1 : Kp Z H Z1 H1 := .of j.good z1 e1
      cases k with
      | false =>
        simp only at q
        simp only [Bool.false_eq_true, if_false]
        exact q Z1 σ H1 k1 j1
      | true =>
        simp only at q
        simp only [if_true]
        refine ⟨fun σ H => ∃ Z ρ ω, J B Z ρ σ H ω ∧ Post B D Z H (whileS t s m ρ ω), fun σ' H' h => ⟨m, Nat.lt_succ_self m, h⟩, Z1, ρ1, ω1, j1, ?_⟩
        cases eb : s ρ1 ω1 with
        | nx ρ2 ω2 =>
          simp only [eb] at q
          exact fun Z2 σ2 H2 k2 j2 => ⟨Z2, ρ2, ω2, j2, q.kp (k1.trans k2)⟩
        | ct ρ2 ω2 =>
          simp only [eb] at q
          exact fun Z2 σ2 H2 k2 j2 => ⟨Z2, ρ2, ω2, j2, q.kp (k1.trans k2)⟩
        | bk ρ2 ω2 =>
          simp only [eb] at q
          exact fun Z2 σ2 H2 k2 j2 => q Z2 σ2 H2 (k1.trans k2) j2
        | rt d ω2 => simp only [eb] at q; exact q
        | exc c ω2 => simp only [eb] at q; exact q
        | bad => simp only [eb] at q; exact q

/-! ### targets -/
abbrev TM := D → Fr → Option Fr
def nmT (i : Nat) : TM := fun d ρ => some (ρ.set i (.val d))
abbrev TMs := List D → Fr → Option Fr
def nilT : TMs := fun ds ρ => match ds with
  | [] => some ρ
  | _ => none
def consT (t : TM) (u : TMs) : TMs := fun ds ρ => match ds with
  | d :: ds => (match t d ρ with
    | some ρ1 => u ds ρ1
    | none => none)
  | [] => none
def tupT (t : TMs) : TM := fun d ρ => match d with
  | .tup ds => t ds ρ
  | _ => none
def RdG (B : Bc) (t : TM) (sl : List Nat) : TG := fun v σ H Q => ∃ Z ρ ω d, J B Z ρ σ H ω ∧ RD B.g.tk Z H d v ∧ match t d ρ with
  | some ρ' => ∀ σ' : St, (∀ j, j ∉ sl → σ'[j]? = σ[j]?) → σ'.length = σ.length → J B Z ρ' σ' H ω → Q σ' H
  | none => False
def RdGs (B : Bc) (t : TMs) (sl : List Nat) : TGs := fun vs σ H Q => ∃ Z ρ ω ds, J B Z ρ σ H ω ∧ RDs B.g.tk Z H ds vs ∧ match t ds ρ with
  | some ρ' => ∀ σ' : St, (∀ j, j ∉ sl → σ'[j]? = σ[j]?) → σ'.length = σ.length → J B Z ρ' σ' H ω → Q σ' H
  | none => False
theorem PG.imp {t t' : TG} (h : PG X tg t) (i : ∀ v σ H Q, t' v σ H Q → t v σ H Q) : PG X tg t' := ⟨fun pins s σ H v u Q I r q => h.run pins s σ H v u Q I r (i v σ H Q q)⟩
theorem PGs.imp {es : List Expr} {t t' : TGs} (h : PGs X es t) (i : ∀ v σ H Q, t' v σ H Q → t v σ H Q) : PGs X es t' := ⟨fun pins s σ H v u Q I r q => h.run pins s σ H v u Q I r (i v σ H Q q)⟩
theorem g_nm {i : Nat} (h : PG X tg (gName i)) : PG X tg (RdG B (nmT i) [i]) := PG.imp h fun v σ H Q ⟨Z, ρ, ω, d, j, r, q⟩ => by
  simp only [nmT] at q
  refine q _ (fun k hk => ?_) (by simp) (j.setVal r)
  rw [List.getElem?_set_ne]
  intro e
  exact hk (by simp [e])
theorem gs_nil : PGs X [] (RdGs B nilT []) := PGs.imp pgs_nil fun v σ H Q ⟨Z, ρ, ω, ds, j, r, q⟩ => by
  cases r with
  | nil => exact ⟨rfl, q σ (fun _ _ => rfl) rfl j⟩
  | cons _ _ => exact q.elim
theorem gs_cons {es : List Expr} {t : TM} {u : TMs} {sl sl' : List Nat} (h1 : PG X e (RdG B t sl)) (h2 : PGs X es (RdGs B u sl'))
    (hs : (assignEach (e :: es) X.env).map (·.2) = assign e X.env :: (assignEach es X.env).map (·.2) := by rfl) : PGs X (e :: es) (RdGs B (consT t u) (sl ++ sl')) := PGs.imp (pgs_cons h1 h2 hs) fun v σ H Q ⟨Z, ρ, ω, ds, j, r, q⟩ => by
  cases r with
  | nil => exact q.elim
  | @cons d v ds vs rd rr =>
    simp only [consT] at q
    refine ⟨_, _, rfl, Z, ρ, ω, d, j, rd, ?_⟩
    cases et : t d ρ with
    | none => simp only [et] at q
    | some ρ1 =>
      simp only [et] at q
      intro σ1 h1 l1 j1
      refine ⟨Z, ρ1, ω, ds, j1, rr, ?_⟩
      cases eu : u ds ρ1 with
      | none => simp only [eu] at q
      | some ρ2 =>
        simp only [eu] at q
        intro σ2 h2 l2 j2
        refine q σ2 (fun k hk => ?_) (l2.trans l1) j2
        rw [h2 k (fun z => hk (List.mem_append_right _ z)), h1 k (fun z => hk (List.mem_append_left _ z))]
theorem g_tup {es : List Expr} {k n : Nat} {t : TMs} {sl : List Nat} (hc : X.calm = true) (h : PGs X es (RdGs B t sl)) (hl : ∀ ds ρ ρ', t ds ρ = some ρ' → ds.length = n)
    (hn : (assignEach es X.env).length = n := by rfl) (hst : (assignEach es X.env).findIdx? (·.1) = none := by rfl) : PG X (.Tuple es k pos) (RdG B (tupT t) sl) := PG.imp (pg_tup hc h hn hst) fun v σ H Q ⟨Z, ρ, ω, d, j, r, q⟩ => by
  cases d with
  | tup ds =>
    simp only [tupT] at q
    obtain ⟨p, vs, rfl, hp, r1⟩ := BR.tup (g := B.g) (.inl r)
    cases et : t ds ρ with
    | none => simp only [et] at q
    | some ρ' =>
      refine ⟨p, vs, rfl, SqT.of hp, by rw [← r1.length]; exact hl ds ρ ρ' et, Z, ρ, ω, ds, j, r1, ?_⟩
      rw [et] at q ⊢
      exact q
  | _ => exact q.elim
theorem len_nil : ∀ ds ρ ρ', nilT ds ρ = some ρ' → ds.length = 0 := fun ds ρ ρ' h => by
  cases ds with
  | nil => rfl
  | cons _ _ => cases h
theorem len_cons {t : TM} {u : TMs} {n : Nat} (hu : ∀ ds ρ ρ', u ds ρ = some ρ' → ds.length = n) : ∀ ds ρ ρ', consT t u ds ρ = some ρ' → ds.length = n + 1 := fun ds ρ ρ' h => by
  cases ds with
  | nil => cases h
  | cons d ds =>
    simp only [consT] at h
    cases et : t d ρ with
    | none => rw [et] at h; cases h
    | some ρ1 => rw [et] at h; rw [List.length_cons, hu ds ρ1 ρ' h]

/-! ### what is walked -/
def Wk (g : Gd) (R : (Addr → Prop) → Hp → Prop) (It : L2.It) (ds : List D) : Prop :=
  ∃ (G : Hp → Prop) (Y : Nat → Hp → V → Hp → Prop), Walk It ds.length G Y ∧ (∀ Z H, R Z H → G H) ∧
    ∀ i H x H' Z ω, i < ds.length → Good g Z H ω → R Z H → Y i H x H' → ∃ Z' d, Grow g Z H Z' H' ∧ ds[i]? = some d ∧ RD g.tk Z' H' d x
def RdI (B : Bc) (f : EM (List D)) : TI := fun σ H R => ∃ Z ρ ω, J B Z ρ σ H ω ∧ match f ρ ω with
  | .ok ds ρ' ω' => ∀ (Z' : Addr → Prop) (H' : Hp) (It : L2.It), Ext B.g H H' → (∀ p, Z p → Z' p) → J B Z' ρ' σ H' ω' → Wk B.g (Kp Z' H') It ds → R It H'
  | .exc c ω' => B.Ex c ω'
  | .bad => False
/-- .. where nothing that stands is changed -/
def RdIB (B : Bc) (f : EM (List D)) : TI := fun σ H R => ∃ Z ρ ω, J B Z ρ σ H ω ∧ match f ρ ω with
  | .ok ds ρ' ω' => ∀ (Z' : Addr → Prop) (H' : Hp) (It : L2.It), Ext B.g H H' → (∀ p, Z p → Z' p) → J B Z' ρ' σ H' ω' → Wk B.g (fun Z H => Kp Z' H' Z H ∧ Ext B.g H' H) It ds → R It H'
  | .exc c ω' => B.Ex c ω'
  | .bad => False
theorem PI.imp {t t' : TI} (h : PI X tg iter t) (i : ∀ σ H Q, t' σ H Q → t σ H Q) : PI X tg iter t' := ⟨fun pins s σ H R I q => h.run pins s σ H R I (i σ H R q)⟩
theorem Wk.weak {g : Gd} {R R' : (Addr → Prop) → Hp → Prop} {It : L2.It} {ds : List D} (w : Wk g R It ds) (h : ∀ Z H, R' Z H → R Z H) : Wk g R' It ds := by
  obtain ⟨G, Y, w1, w2, w3⟩ := w
  exact ⟨G, Y, w1, fun Z H r => w2 Z H (h Z H r), fun i H x H' Z ω hi k r y => w3 i H x H' Z ω hi k (h Z H r) y⟩
theorem i_b {f : EM (List D)} (h : PI X tg iter (RdI B f)) : PI X tg iter (RdIB B f) := PI.imp h fun σ H R ⟨Z, ρ, ω, j, q⟩ => by
  refine ⟨Z, ρ, ω, j, ?_⟩
  cases ef : f ρ ω with
  | bad => simp only [ef] at q
  | exc c ω' => simp only [ef] at q; exact q
  | ok ds ρ' ω' =>
    simp only [ef] at q
    exact fun Z' H' It e z j' w => q Z' H' It e z j' (w.weak fun _ _ r => r.1)
/-- a list or a tuple -/
def iSeq (K : PySem.W.Frag) (tl : TE) : TI := fun σ H R => tl σ H fun x H1 => ∃ a, x = .ref a ∧ (((∃ xs, SqL K H1 a xs) ∧ R (Itl K a) H1) ∨ ((∃ xs, SqT K H1 a xs) ∧ R (Itt K a) H1))
theorem pi_seq {l : Expr} {tl : TE} (hl : PE X l tl) : PI X tg l (iSeq X.K tl) := by
  refine ⟨fun pins s σ H R I h => ?_⟩
  refine thn (hl.run pins s σ H _ I h) fun v s1 ⟨x, H1, I1, r1, q1⟩ => ?_
  obtain ⟨a, e, q⟩ := q1
  subst e
  cases r1
  rcases q with ⟨⟨xs, hq⟩, q⟩ | ⟨⟨xs, hq⟩, q⟩
  · obtain ⟨its, rv, p, hz⟩ := I1.list hq
    refine wpAny_pyIter_list p.isList ?_
    refine ⟨s1.heap.objs.size, [s1.heap.objs.size], _, _, H1, rfl, I1.kept (t' := s1.toks) fun b o e => Heap.get?_push_of_some _ e, turn_list a _, ⟨_, Heap.get?_push_size _ rfl, rfl, rfl⟩, fun b hb => ?_, q⟩
    have e : b = s1.heap.objs.size := by simpa using hb
    subst e
    exact I1.fpOk (Nat.le_refl _) (I1.hok.fresh (Nat.le_refl _))
  · obtain ⟨its, rv, p, hz⟩ := I1.tuple hq
    refine wpAny_pyIter_tuple (show s1.heap.IsTuple a its.toArray from p) ?_
    refine ⟨s1.heap.objs.size, [s1.heap.objs.size], _, _, H1, rfl, I1.kept (t' := s1.toks) fun b o e => Heap.get?_push_of_some _ e, turn_tuple a _, ⟨_, Heap.get?_push_size _ rfl, rfl, rfl⟩, fun b hb => ?_, q⟩
    have e : b = s1.heap.objs.size := by simpa using hb
    subst e
    exact I1.fpOk (Nat.le_refl _) (I1.hok.fresh (Nat.le_refl _))
def itM (f : EM D) : EM (List D) := fun ρ ω => (f ρ ω).andThen fun d => optM (items? d)
theorem wk_list {K : PySem.W.Frag} {g : Gd} {R : (Addr → Prop) → Hp → Prop} {p : Addr} {ds : List D} {vs : List V} (hl : ds.length = vs.length) (h : ∀ Z H, R Z H → H p = some (.lst vs)) (hr : ∀ Z H, R Z H → RDs g.tk Z H ds vs) : Wk g R (Itl K p) ds :=
  ⟨fun H => SqL K H p vs, YAt vs, by rw [hl]; exact walk_list, fun Z H r => SqL.of (h Z H r), fun i H x H' Z ω hi k r y => by
    obtain ⟨rfl, e⟩ := y
    obtain ⟨d, h1, h2⟩ := (hr Z _ r).get' e
    exact ⟨Z, d, .refl, h1, h2⟩⟩
theorem wk_tup {K : PySem.W.Frag} {g : Gd} {R : (Addr → Prop) → Hp → Prop} {p : Addr} {ds : List D} {vs : List V} (hl : ds.length = vs.length) (h : ∀ Z H, R Z H → SqT K H p vs) (hr : ∀ Z H, R Z H → RDs g.tk Z H ds vs) : Wk g R (Itt K p) ds :=
  ⟨fun H => SqT K H p vs, YAt vs, by rw [hl]; exact walk_tup, fun Z H r => h Z H r, fun i H x H' Z ω hi k r y => by
    obtain ⟨rfl, e⟩ := y
    obtain ⟨d, h1, h2⟩ := (hr Z _ r).get' e
    exact ⟨Z, d, .refl, h1, h2⟩⟩
theorem w_seq {f : EM D} (h : PE X iter (RdE B f)) : PI X tg iter (RdI B (itM f)) := PI.imp (pi_seq h) fun σ H R ⟨Z, ρ, ω, j, q⟩ => by
  refine ⟨Z, ρ, ω, j, ?_⟩
  unfold itM at q
  cases ea : f ρ ω with
  | bad => simp only [ea, Out.andThen] at q
  | exc c ω' => simp only [ea, Out.andThen] at q; exact q
  | ok d ρ1 ω1 =>
    simp only [ea, Out.andThen, optM] at q
    intro Z1 v H1 e1 z1 j1 r1
    cases d with
    | lst ds =>
      simp only [items?] at q
      cases r1 with
      | obj zp ro =>
        cases ro with
        | lst hp rs => exact ⟨_, rfl, .inl ⟨⟨_, SqL.of hp⟩, q Z1 H1 _ e1 z1 j1 (wk_list rs.length (fun Z H r => r.keep _ _ (.inl zp) hp) fun Z H r => rs.kp r)⟩⟩
    | tup ds =>
      simp only [items?] at q
      obtain ⟨p, vs, rfl, hp, rs⟩ := BR.tup (g := B.g) (.inl r1)
      exact ⟨_, rfl, .inr ⟨⟨_, SqT.of hp⟩, q Z1 H1 _ e1 z1 j1 (wk_tup rs.length (fun Z H r => SqT.of (r.keep _ _ (.inr ⟨_, hp⟩) hp)) fun Z H r => rs.kp r)⟩⟩
    | ptup ds =>
      simp only [items?] at q
      obtain ⟨p, vs, o, rfl, zp, hp, nd, rs⟩ := BR.ptup (g := B.g) (.inl r1)
      exact ⟨_, rfl, .inr ⟨⟨_, SqT.fz hp⟩, q Z1 H1 _ e1 z1 j1 (wk_tup rs.length (fun Z H r => SqT.fz (r.keep _ _ (.inl zp) hp)) fun Z H r => rs.kp r)⟩⟩
    | _ => simp only [items?] at q
theorem w_seqB {f : EM D} (h : PE X iter (RdB B f)) : PI X tg iter (RdIB B (itM f)) := PI.imp (pi_seq h) fun σ H R ⟨Z, ρ, ω, j, q⟩ => by
  refine ⟨Z, ρ, ω, j, ?_⟩
  unfold itM at q
  cases ea : f ρ ω with
  | bad => simp only [ea, Out.andThen] at q
  | exc c ω' => simp only [ea, Out.andThen] at q; exact q
  | ok d ρ1 ω1 =>
    simp only [ea, Out.andThen, optM] at q
    intro Z1 v H1 e1 z1 j1 r1
    cases d with
    | lst ds =>
      simp only [items?] at q
      have np : ∃ p vs, v = .ref p ∧ H1 p = some (.lst vs) ∧ RDs B.g.tk Z1 H1 ds vs ∧ B.g.pd ≠ some p := by
        rcases r1 with r1 | ⟨p, rfl, n, ro⟩
        · cases r1 with
          | obj zp ro =>
            cases ro with
            | lst hp rs => exact ⟨_, _, rfl, hp, rs, (j1.good.zs _ zp).1⟩
        · cases ro with
          | lst hp rs => exact ⟨_, _, rfl, hp, rs, n⟩
      obtain ⟨p, vs, rfl, hp, rs, n⟩ := np
      exact ⟨_, rfl, .inl ⟨⟨_, SqL.of hp⟩, q Z1 H1 _ e1 z1 j1 (wk_list rs.length (fun Z H r => r.2.keep _ _ hp n fix_lst) fun Z H r => rs.kp r.1)⟩⟩
    | tup ds =>
      simp only [items?] at q
      obtain ⟨p, vs, rfl, hp, rs⟩ := r1.tup
      exact ⟨_, rfl, .inr ⟨⟨_, SqT.of hp⟩, q Z1 H1 _ e1 z1 j1 (wk_tup rs.length (fun Z H r => SqT.of (r.1.keep _ _ (.inr ⟨_, hp⟩) hp)) fun Z H r => rs.kp r.1)⟩⟩
    | ptup ds =>
      simp only [items?] at q
      obtain ⟨p, vs, o, rfl, zp, hp, nd, rs⟩ := r1.ptup
      exact ⟨_, rfl, .inr ⟨⟨_, SqT.fz hp⟩, q Z1 H1 _ e1 z1 j1 (wk_tup rs.length (fun Z H r => SqT.fz (r.1.keep _ _ (.inl zp) hp)) fun Z H r => rs.kp r.1)⟩⟩
    | _ => simp only [items?] at q
/-! ranges -/
def rgOk (i : Int) : Bool := inBd 4611686018427387903 i
theorem rgOk_ok {i : Int} (h : rgOk i = true) : -(2 ^ 62) ≤ i ∧ i < 2 ^ 62 := by
  have := inBd_ok h
  omega
def rangeL (lo : Int) (n : Nat) : List D := (List.range n).map fun (i : Nat) => D.int (lo + (i : Int))
theorem rangeL_len (lo : Int) (n : Nat) : (rangeL lo n).length = n := by simp [rangeL]
theorem wk_range {g : Gd} {R : (Addr → Prop) → Hp → Prop} {lo : Int} {n : Nat} : Wk g R (Itr lo n) (rangeL lo n) :=
  ⟨fun _ => True, YFn fun i => .int (lo + i), by rw [rangeL_len]; exact walk_range, fun _ _ _ => trivial, fun i H x H' Z ω hi k r y => by
    obtain ⟨rfl, rfl⟩ := y
    rw [rangeL_len] at hi
    exact ⟨Z, .int (lo + i), .refl, by simp [rangeL, hi], .int _⟩⟩
def rng1M (f : EM D) : EM (List D) := fun ρ ω => (f ρ ω).andThen fun d => optM (match d with
  | .int j => if rgOk j then some (rangeL 0 j.toNat) else none
  | _ => none)
theorem w_rng1 {f : EM D} (h : PI X tg iter (iRng1 (tCons (RdB B f) tNil))) : PI X tg iter (RdI B (rng1M f)) := PI.imp h fun σ H R ⟨Z, ρ, ω, j, q⟩ => by
  refine ⟨Z, ρ, ω, j, ?_⟩
  unfold rng1M at q
  cases ea : f ρ ω with
  | bad => simp only [ea, Out.andThen] at q
  | exc c ω' => simp only [ea, Out.andThen] at q; exact q
  | ok d ρ1 ω1 =>
    simp only [ea, Out.andThen, optM] at q
    intro Z1 v H1 e1 z1 j1 r1
    cases d with
    | int m =>
      simp only at q
      by_cases hm : rgOk m = true
      · simp only [hm, if_true] at q
        have := r1.int
        subst this
        exact ⟨m, rfl, (rgOk_ok hm).1, (rgOk_ok hm).2, q Z1 H1 _ e1 z1 j1 wk_range⟩
      · simp only [hm, if_false] at q
        exact q.elim
    | _ => exact q.elim
def rng2M (f h : EM D) : EM (List D) := fun ρ ω => (f ρ ω).andThen fun d ρ ω => (h ρ ω).andThen fun d' => optM (match d, d' with
  | .int i, .int j => if rgOk i && rgOk j then some (rangeL i (j - i).toNat) else none
  | _, _ => none)
theorem w_rng2 {f f' : EM D} (h : PI X tg iter (iRng2 (tCons (RdB B f) (tCons (RdB B f') tNil)))) : PI X tg iter (RdI B (rng2M f f')) := PI.imp h fun σ H R ⟨Z, ρ, ω, j, q⟩ => by
  refine ⟨Z, ρ, ω, j, ?_⟩
  unfold rng2M at q
  cases ea : f ρ ω with
  | bad => simp only [ea, Out.andThen] at q
  | exc c ω' => simp only [ea, Out.andThen] at q; exact q
  | ok d ρ1 ω1 =>
    simp only [ea, Out.andThen, optM] at q
    intro Z1 v H1 e1 z1 j1 r1
    refine ⟨Z1, ρ1, ω1, j1, ?_⟩
    cases eb : f' ρ1 ω1 with
    | bad => simp only [eb] at q
    | exc c ω' => simp only [eb] at q; exact q
    | ok d' ρ2 ω2 =>
      simp only [eb] at q
      intro Z2 w H2 e2 z2 j2 r2
      cases d <;> cases d' <;> first
        | exact q.elim
        | skip
      rename_i i m
      simp only at q
      by_cases hm : (rgOk i && rgOk m) = true
      · simp only [hm, if_true] at q
        have := r1.int
        subst this
        have := r2.int
        subst this
        have hm := Bool.and_eq_true_iff.mp hm
        exact ⟨i, m, rfl, ⟨(rgOk_ok hm.1).1, (rgOk_ok hm.1).2, (rgOk_ok hm.2).1, (rgOk_ok hm.2).2⟩, q Z2 H2 _ (e1.trans e2) (fun p z => z2 p (z1 p z)) j2 wk_range⟩
      · simp only [hm, if_false] at q
        exact q.elim

/-! ### for -/
def forS (t : TM) (s : SM) : List D → SM
  | [] => fun ρ ω => .nx ρ ω
  | d :: ds => fun ρ ω => match t d ρ with
    | none => .bad
    | some ρ1 => match s ρ1 ω with
      | .nx ρ ω => forS t s ds ρ ω
      | .ct ρ ω => forS t s ds ρ ω
      | .bk ρ ω => .nx ρ ω
      | o => o
def forM (f : EM (List D)) (t : TM) (s : SM) : SM := fun ρ ω => (f ρ ω).stm fun ds => forS t s ds
theorem s_for {f : EM (List D)} {t : TM} {s : SM} {sl : List Nat} (hp : PassesOwn (model X.prog X.w) X.A X.env X.xe) (hc : X.calm = true) (hi : PI X tg iter (RdI B f)) (hg : PG X tg (RdG B t sl)) (hb : PSs X body (RdS B s))
    (hs : ∀ x, foldedSetIterable iter X.env x = pure x := by intro _; rfl) : PS X (.For tg iter body [] pos) (RdS B (forM f t s)) := PS.imp (ps_for hp hc hi hg hb hs) fun D σ H ⟨Z, ρ, ω, j, q⟩ => by
  refine ⟨Z, ρ, ω, j, ?_⟩
  unfold forM at q
  cases ea : f ρ ω with
  | bad => simp only [ea, Out.stm] at q; exact q
  | exc c ω' => simp only [ea, Out.stm] at q; exact q
  | ok ds ρ1 ω1 =>
    simp only [ea, Out.stm] at q
    intro Z1 H1 It e1 z1 j1 w
    have k1 : Kp Z H Z1 H1 := .of j.good z1 e1
    obtain ⟨G, Y, w1, w2, w3⟩ := w
    refine for_it w1 (fun i σ H => ∃ Z ρ ω, J B Z ρ σ H ω ∧ Kp Z1 H1 Z H ∧ Post B D Z H (forS t s (ds.drop i) ρ ω)) ⟨Z1, ρ1, ω1, j1, .refl, by rw [List.drop_zero]; exact q.kp k1⟩ (fun i σ H _ ⟨Z, ρ, ω, _, k, _⟩ => w2 Z H k) ?_ ?_
    · rintro i x σ2 H2 H3 hi ⟨Z2, ρ2, ω2, j2, k2, q2⟩ hy
      obtain ⟨Z3, d, gr, hd, rd⟩ := w3 i H2 x H3 Z2 ω2 hi j2.good k2 hy
      have j3 := j2.grow gr
      have k3 : Kp Z2 H2 Z3 H3 := .of j2.good gr.sub gr.ext
      have hd' : ds.drop i = d :: ds.drop (i + 1) := by
        rw [List.drop_eq_getElem_cons hi]
        obtain ⟨_, e⟩ := List.getElem?_eq_some_iff.mp hd
        rw [e]
      rw [hd'] at q2
      unfold forS at q2
      refine ⟨Z3, ρ2, ω2, d, j3, rd, ?_⟩
      cases et : t d ρ2 with
      | none => simp only [et] at q2; exact q2
      | some ρ4 =>
        simp only [et] at q2
        intro σ4 h4 l4 j4
        refine ⟨Z3, ρ4, ω2, j4, ?_⟩
        cases eb : s ρ4 ω2 with
        | nx ρ5 ω5 =>
          simp only [eb] at q2
          exact fun Z5 σ5 H5 k5 j5 => ⟨Z5, ρ5, ω5, j5, k2.trans (k3.trans k5), q2.kp (k3.trans k5)⟩
        | ct ρ5 ω5 =>
          simp only [eb] at q2
          exact fun Z5 σ5 H5 k5 j5 => ⟨Z5, ρ5, ω5, j5, k2.trans (k3.trans k5), q2.kp (k3.trans k5)⟩
        | bk ρ5 ω5 =>
          simp only [eb] at q2
          exact fun Z5 σ5 H5 k5 j5 => q2 Z5 σ5 H5 (k3.trans k5) j5
        | rt d ω5 => simp only [eb] at q2; exact q2
        | exc c ω5 => simp only [eb] at q2; exact q2
        | bad => simp only [eb] at q2; exact q2
    · rintro σ2 H2 ⟨Z2, ρ2, ω2, j2, k2, q2⟩
      rw [List.drop_length] at q2
      exact q2 Z2 σ2 H2 .refl j2
end
end L2.Fl

namespace L2.Fl
open PySem PySem.Spec PyProof.Rows

def Bc.blk (B : Bc) (R : Addr → Prop) : Bc := { B with Ex := fun _ _ => False, E := E0, Rz := fun p => B.Rz p ∨ R p, hE := fun _ _ _ _ _ h => h.elim }
/-- names of a block forgotten, and given back -/
def wipeF : List Nat → Fr → Fr
  | [], ρ => ρ
  | v :: vs, ρ => (wipeF vs ρ).set v .no
def restF : List Nat → Fr → Fr → Fr
  | [], _, ρ => ρ
  | v :: vs, ρ0, ρ => (restF vs ρ0 ρ).set v (ρ0.getD v .no)
def isOwn : Option Slot → Bool
  | some (.own _) => true
  | _ => false
def noOwn (vs : List Nat) (ρ : Fr) : Bool := vs.all fun v => !isOwn ρ[v]?
theorem wipeF_len : ∀ (vs : List Nat) (ρ : Fr), (wipeF vs ρ).length = ρ.length
  | [], _ => rfl
  | v :: vs, ρ => by unfold wipeF; rw [List.length_set, wipeF_len vs ρ]
theorem wipeF_some {ρ : Fr} {i : Nat} {x : Slot} (hx : x ≠ .no) : ∀ {vs : List Nat}, (wipeF vs ρ)[i]? = some x → ρ[i]? = some x ∧ i ∉ vs
  | [], h => ⟨h, by simp⟩
  | v :: vs, h => by
    unfold wipeF at h
    by_cases hi : v = i
    · subst hi
      by_cases hv : v < (wipeF vs ρ).length
      · rw [List.getElem?_set_self hv] at h
        exact absurd (Option.some.inj h).symm hx
      · rw [List.getElem?_eq_none (by simpa using hv)] at h; cases h
    · rw [List.getElem?_set_ne hi] at h
      obtain ⟨h1, h2⟩ := wipeF_some hx h
      exact ⟨h1, by simp only [List.mem_cons, not_or]; exact ⟨fun e => hi e.symm, h2⟩⟩
theorem restF_len : ∀ (vs : List Nat) (ρ0 ρ : Fr), (restF vs ρ0 ρ).length = ρ.length
  | [], _, _ => rfl
  | v :: vs, ρ0, ρ => by unfold restF; rw [List.length_set, restF_len vs ρ0 ρ]
theorem restF_out {ρ0 ρ : Fr} {i : Nat} : ∀ {vs : List Nat}, i ∉ vs → (restF vs ρ0 ρ)[i]? = ρ[i]?
  | [], _ => rfl
  | v :: vs, h => by
    have h1 : v ≠ i := fun e => h (by rw [e]; exact List.mem_cons_self)
    unfold restF
    rw [List.getElem?_set_ne h1]
    exact restF_out fun m => h (List.mem_cons_of_mem _ m)
theorem restF_in {ρ0 ρ : Fr} {i : Nat} : ∀ {vs : List Nat}, i ∈ vs → i < ρ.length → (restF vs ρ0 ρ)[i]? = some (ρ0.getD i .no)
  | v :: vs, h, hi => by
    unfold restF
    by_cases hv : v = i
    · subst hv
      rw [List.getElem?_set_self (by rw [restF_len]; exact hi)]
    · rw [List.getElem?_set_ne hv]
      exact restF_in ((List.mem_cons.mp h).resolve_left fun e => hv e.symm) hi
theorem wipe_get {σ : L2.St} {vs : List Nat} {i : Nat} : i ∈ vs → i < σ.length → (wipe σ vs)[i]? = some none := by
  induction vs with
  | nil => intro h; cases h
  | cons v vs ih =>
    intro h hi
    unfold wipe
    by_cases hv : v = i
    · subst hv
      rw [List.getElem?_set_self (by rw [wipe_length]; exact hi)]
    · rw [List.getElem?_set_ne hv]
      exact ih ((List.mem_cons.mp h).resolve_left fun e => hv e.symm) hi
theorem wipe_eq {σ σ2 : L2.St} {vs : List Nat} (h : ∀ j, j ∉ vs → σ2[j]? = (wipe σ vs)[j]?) (l : σ2.length = (wipe σ vs).length) : wipe σ2 vs = wipe σ vs := by
  apply List.ext_getElem?
  intro i
  have l' : σ2.length = σ.length := by rw [l, wipe_length]
  by_cases hi : i ∈ vs
  · by_cases hl : i < σ.length
    · rw [wipe_get hi (by rw [l']; exact hl), wipe_get hi hl]
    · rw [List.getElem?_eq_none (by rw [wipe_length, l']; omega), List.getElem?_eq_none (by rw [wipe_length]; omega)]
  · rw [wipe_out hi, h i hi]

section
variable {B : Bc} {Z : Addr → Prop} {ρ : Fr} {σ : L2.St} {H : Hp} {ω : W3}
theorem J.wipe (j : J B Z ρ σ H ω) (vs : List Nat) : J B Z (wipeF vs ρ) (L2.wipe σ vs) H ω := by
  refine ⟨j.good, j.ext, j.z0, j.zn, by rw [wipeF_len, wipe_length]; exact j.len, fun k e ek => ?_, fun k e ek => ?_, j.res, fun k l e f q ek el hk hl => ?_⟩
  · obtain ⟨h1, h2⟩ := wipeF_some (by intro z; cases z) ek
    obtain ⟨v, q1, q2⟩ := j.val k e h1
    exact ⟨v, by rw [wipe_out h2]; exact q1, q2⟩
  · obtain ⟨h1, h2⟩ := wipeF_some (by intro z; cases z) ek
    obtain ⟨p, q1, q2⟩ := j.own k e h1
    exact ⟨p, by rw [wipe_out h2]; exact q1, q2⟩
  · obtain ⟨h1, h2⟩ := wipeF_some (by intro z; cases z) ek
    obtain ⟨g1, g2⟩ := wipeF_some (by intro z; cases z) el
    exact j.sep k l e f q h1 g1 (wipe_some hk).1 (wipe_some hl).1
theorem J.toBlk (j : J B Z ρ σ H ω) {R : Addr → Prop} (hR : ∀ p, R p → ¬ Z p ∧ H p ≠ none ∧ ∀ (i : Nat) (d : D), ρ[i]? = some (.own d) → σ[i]? ≠ some (some (.ref p))) : J (B.blk R) Z ρ σ H ω :=
  ⟨j.good, j.ext, j.z0, j.zn, j.len, j.val, fun i d e => by
    obtain ⟨p, h1, h2, h3, h4, h5, h6⟩ := j.own i d e
    refine ⟨p, h1, h2, h3, h4, h5, fun z => ?_⟩
    rcases z with z | z
    · exact h6 z
    · exact (hR p z).2.2 i d e h1, fun p r => by
    rcases r with r | r
    · exact j.res p r
    · exact ⟨(hR p r).1, (hR p r).2.1⟩, j.sep⟩
theorem J.ofBlk0 {R : Addr → Prop} (j : J (B.blk R) Z ρ σ H ω) : J B Z ρ σ H ω :=
  ⟨j.good, j.ext, j.z0, j.zn, j.len, j.val, fun i d e => by
    obtain ⟨p, h1, h2, h3, h4, h5, h6⟩ := j.own i d e
    exact ⟨p, h1, h2, h3, h4, h5, fun z => h6 (.inl z)⟩, fun p r => j.res p (.inl r), j.sep⟩
/-- the block's end: its own names are given back -/
theorem J.rest {Z1 : Addr → Prop} {ρ1 : Fr} {H1 : Hp} {ω1 : W3} {vs : List Nat} (j1 : J B Z1 ρ1 σ H1 ω1) (j : J B Z ρ (L2.wipe σ vs) H ω) (k : Kp Z1 H1 Z H) (hn : noOwn vs ρ1 = true) : J B Z (restF vs ρ1 ρ) σ H ω := by
  have hl : ρ.length = ρ1.length := by rw [j.len, wipe_length, j1.len]
  have back : ∀ (i : Nat) (x : Slot), (restF vs ρ1 ρ)[i]? = some x → (i ∈ vs ∧ ((ρ1[i]? = some x ∧ isOwn (some x) = false) ∨ x = .no)) ∨ (i ∉ vs ∧ ρ[i]? = some x) := fun i x e => by
    by_cases hi : i ∈ vs
    · left
      have hlt : i < ρ.length := by
        have := (List.getElem?_eq_some_iff.mp e).1
        rw [restF_len] at this; exact this
      rw [restF_in hi hlt] at e
      have hlt1 : i < ρ1.length := by rw [← hl]; exact hlt
      have e' : ρ1[i]? = some x := by
        rw [List.getD_eq_getElem?_getD] at e
        rw [List.getElem?_eq_getElem hlt1] at e ⊢
        simpa using e
      refine ⟨hi, .inl ⟨e', ?_⟩⟩
      have := List.all_eq_true.mp hn i hi
      rw [e'] at this
      simpa using this
    · right
      rw [restF_out hi] at e
      exact ⟨hi, e⟩
  refine ⟨j.good, j.ext, j.z0, j.zn, by rw [restF_len, j.len, wipe_length], fun i e ek => ?_, fun i e ek => ?_, j.res, fun i l e f q ek el hk hl => ?_⟩
  · rcases back i _ ek with ⟨_, ⟨h, _⟩ | h⟩ | ⟨hi, h⟩
    · obtain ⟨v, q1, q2⟩ := j1.val i e h
      exact ⟨v, q1, q2.kp k⟩
    · cases h
    · obtain ⟨v, q1, q2⟩ := j.val i e h
      rw [wipe_out hi] at q1
      exact ⟨v, q1, q2⟩
  · rcases back i _ ek with ⟨_, ⟨_, h⟩ | h⟩ | ⟨hi, h⟩
    · cases h
    · cases h
    · obtain ⟨v, q1, q2⟩ := j.own i e h
      rw [wipe_out hi] at q1
      exact ⟨v, q1, q2⟩
  · rcases back i _ ek with ⟨_, ⟨_, h⟩ | h⟩ | ⟨hi, h⟩
    · cases h
    · cases h
    · rcases back l _ el with ⟨_, ⟨_, g⟩ | g⟩ | ⟨gi, g⟩
      · cases g
      · cases g
      · exact j.sep i l e f q h g (by rw [wipe_out hi]; exact hk) (by rw [wipe_out gi]; exact hl)
/-- a reserved thing is changed -/
theorem J.updR (j : J B Z ρ σ H ω) {p : Addr} {o u : HO} (r : B.Rz p) (h0 : B.H0 p = none) (np : B.g.pd ≠ some p) (hu : H p = some u) (hf : Fix u) (hx : ∀ phi, u ≠ .ext phi := by intro _ h; cases h) (ht : ∀ us, u ≠ .tup us := by intro _ h; cases h) : J B Z ρ σ (upd H p o) ω := by
  have nz := (j.res p r).1
  have ne : ∀ q, ZT Z H q → q ≠ p := fun q z e => by
    subst e
    rcases z with z | ⟨us, z⟩
    · exact nz z
    · rw [hu] at z; cases z; exact ht us rfl
  have kz : ∀ q u, ZT Z H q → H q = some u → upd H p o q = some u := fun q u z h => by rw [upd_ne (ne q z)]; exact h
  refine ⟨⟨fun q z => ?_, fun q' e' => by rw [upd_ne (fun (z : q' = p) => np (by rw [e', z]))]; exact j.good.dice q' e', fun P hP => ?_⟩, ⟨fun q u h n f => ?_, fun q h => ?_⟩, j.z0, j.zn, j.len, fun k e ek => ?_, fun k e ek => ?_, fun q rr => ⟨(j.res q rr).1, fun z => ?_⟩, j.sep⟩
  · obtain ⟨n, u, h, f⟩ := j.good.zs q z
    exact ⟨n, u, kz q u (.inl z) h, f⟩
  · exact (j.good.tabs P hP).upd hu hf hx
  · by_cases hq : q = p
    · subst hq; rw [h0] at h; cases h
    · rw [upd_ne hq]; exact j.ext.keep q u h n f
  · by_cases hq : q = p
    · subst hq; exact h0
    · rw [upd_ne hq] at h; exact j.ext.dom q h
  · obtain ⟨v, q1, q2⟩ := j.val k e ek
    exact ⟨v, q1, q2.mono (fun _ z => z) kz⟩
  · obtain ⟨q, q1, q2, q3, q4, q5, q6⟩ := j.own k e ek
    have hqp : q ≠ p := fun e => q6 (e ▸ r)
    exact ⟨q, q1, q2.mono (fun _ z => z) kz (fun u h => by rw [upd_ne hqp]; exact h), q3, q4, q5, q6⟩
  · by_cases hq : q = p
    · rw [hq, upd_same] at z; cases z
    · rw [upd_ne hq] at z; exact (j.res q rr).2 z
end

/-! ### list comprehensions -/
def Out.thenB {α β : Type} (o : Out α) (k : α → Fr → W3 → Out β) : Out β := match o with
  | .ok a ρ ω => k a ρ ω
  | _ => .bad
def compL (vs : List Nat) (t : TM) (tt : EM Bool) (te : EM D) : List D → List D → EM (List D)
  | [], acc => fun ρ ω => .ok acc ρ ω
  | d :: ds, acc => fun ρ ω => match t d ρ with
    | none => .bad
    | some ρ1 => (tt ρ1 ω).thenB fun b ρ2 ω2 => match b with
      | false => compL vs t tt te ds acc (wipeF vs ρ2) ω2
      | true => (te ρ2 ω2).thenB fun x ρ3 ω3 => if acc.length < LIM then compL vs t tt te ds (acc ++ [x]) (wipeF vs ρ3) ω3 else .bad
def lcM (vs : List Nat) (it : EM (List D)) (t : TM) (tt : EM Bool) (te : EM D) : EM (List D) := fun ρ ω => (it ρ ω).andThen fun ds ρ1 ω1 =>
  if noOwn vs ρ1 then (compL vs t tt te ds [] (wipeF vs ρ1) ω1).thenB fun xs ρ2 ω2 => .ok xs (restF vs ρ1 ρ2) ω2 else .bad
def yesT : EM Bool := fun ρ ω => .ok true ρ ω
section
variable {X : Cx} {B : Bc} {e a b c tg iter elt : Expr} {pos : Pos} {st : Stmt} {rest body orelse : List Stmt}
theorem t_nil : PTs X [] (RdT B yesT) := ⟨fun pins s σ H Q I ⟨Z, ρ, ω, j, q⟩ => pts_nil.run pins s σ H Q I (q Z H .refl (fun _ z => z) j)⟩
theorem t_one {f : EM Bool} (h : PT X c (RdT B f)) : PTs X [c] (RdT B f) := pts_one h
/-- the reading for some reserved set -/
def ExE (B : Bc) (f : EM D) : TE := fun σ H Q => ∃ R, RdE (B.blk R) f σ H Q
def ExT (B : Bc) (f : EM Bool) : TT := fun σ H Q => ∃ R, RdT (B.blk R) f σ H Q
def ExG (B : Bc) (t : TM) (sl : List Nat) : TG := fun v σ H Q => ∃ R, RdG (B.blk R) t sl v σ H Q
def ExI (B : Bc) (f : EM (List D)) : TI := fun σ H Q => ∃ R, RdIB (B.blk R) f σ H Q
theorem x_e {f : EM D} (h : ∀ R, PE X e (RdE (B.blk R) f)) : PE X e (ExE B f) := ⟨fun pins s σ H Q I ⟨R, q⟩ => (h R).run pins s σ H Q I q⟩
theorem x_t {f : EM Bool} {ifs : List Expr} (h : ∀ R, PTs X ifs (RdT (B.blk R) f)) : PTs X ifs (ExT B f) := ⟨fun pins s σ H Q I ⟨R, q⟩ => (h R).run pins s σ H Q I q⟩
theorem x_g {t : TM} {sl : List Nat} (h : ∀ R, PG X tg (RdG (B.blk R) t sl)) : PG X tg (ExG B t sl) := ⟨fun pins s σ H v u Q I r ⟨R, q⟩ => (h R).run pins s σ H v u Q I r q⟩
theorem x_i {f : EM (List D)} (h : ∀ R, PI X tg iter (RdIB (B.blk R) f)) : PI X tg iter (ExI B f) := ⟨fun pins s σ H Q I ⟨R, q⟩ => (h R).run pins s σ H Q I q⟩

/-- what the new list's loop is to reach -/
def CPost (B : Bc) (Dn : Addr) (Z1 : Addr → Prop) (H1 : Hp) (σw : L2.St) (Q : Fr → W3 → (Addr → Prop) → List D → List V → Hp → Prop) (o : Out (List D)) : Prop := match o with
  | .ok xs ρ ω => ∀ (Z : Addr → Prop) (vs : List V) (H : Hp), J B Z ρ σw H ω → Kp Z1 H1 Z H → Ext B.g H1 H → H Dn = some (.lst vs) → RDs B.g.tk Z H xs vs → Q ρ ω Z xs vs H
  | _ => False
/-- one clause's loop, where a list stands at Dn already -/
theorem comp_loop {It : L2.It} {ds : List D} {vs slots : List Nat} {t : TM} {tt : EM Bool} {te : EM D} {Dn : Addr} {Z1 : Addr → Prop} {H1 : Hp} {σ : L2.St} {Qd : Hp → Prop} {Q : Fr → W3 → (Addr → Prop) → List D → List V → Hp → Prop} {R : Addr → Prop}
    (hR : R Dn) (h10 : H1 Dn = none) (h0 : B.H0 Dn = none) (np : B.g.pd ≠ some Dn) (hsl : ∀ i ∈ slots, i ∈ vs)
    {Z2 : Addr → Prop} {H2 : Hp} {E2 : Hp → Prop} (w : Wk B.g (fun Z H => Kp Z2 H2 Z H ∧ E2 H) It ds) (hE1 : ∀ H H', E2 H → Ext B.g H H' → E2 H') (hE2 : ∀ H l, E2 H → E2 (upd H Dn (.lst l)))
    {Za : Addr → Prop} {Ha : Hp} {ρ : Fr} {ω : W3} {acc : List D} {av : List V}
    (ja : J (B.blk R) Za ρ (L2.wipe σ vs) Ha ω) (k1 : Kp Z1 H1 Za Ha) (e1 : Ext B.g H1 Ha) (k2 : Kp Z2 H2 Za Ha) (e2 : E2 Ha) (ha : Ha Dn = some (.lst av)) (ra : RDs B.g.tk Za Ha acc av)
    (hq : CPost (B.blk R) Dn Z1 H1 (L2.wipe σ vs) Q (compL vs t tt te ds acc ρ ω))
    (hd : ∀ ρ ω Z xs vs H, Q ρ ω Z xs vs H → Qd H) :
    ∃ W : Nat → Nat → Hp → Prop, (∃ m, W 0 m Ha) ∧ ∀ i m H, W i m H →
      (It.stop i H ∧ Qd H) ∨ (It.go i H ∧ ∃ Nx : Hp → Prop, (∀ H', Nx H' → ∃ m', m' < m ∧ W (i + 1) m' H') ∧ ∀ x H', It.yld i H x H' → ExG B t slots x (L2.wipe σ vs) H' fun σ2 H2 => L2.wipe σ2 vs = L2.wipe σ vs ∧ ExT B tt σ2 H2 fun b H3 =>
        if b = true then ExE B te σ2 H3 fun y H4 => ∃ acc, H4 Dn = some (.lst acc) ∧ acc.length < sizeLine ∧ Nx (upd H4 Dn (.lst (acc ++ [y]))) else Nx H3) := by
  obtain ⟨G, Y, w1, w2, w3⟩ := w
  let Pv : Nat → Hp → Prop := fun i H => ∃ Z ρ ω acc av, J (B.blk R) Z ρ (L2.wipe σ vs) H ω ∧ Kp Z1 H1 Z H ∧ Ext B.g H1 H ∧ Kp Z2 H2 Z H ∧ E2 H ∧ H Dn = some (.lst av) ∧ RDs B.g.tk Z H acc av ∧ CPost (B.blk R) Dn Z1 H1 (L2.wipe σ vs) Q (compL vs t tt te (ds.drop i) acc ρ ω)
  refine ⟨fun i m H => m = ds.length - i ∧ i ≤ ds.length ∧ Pv i H, ⟨ds.length, by simp, Nat.zero_le _, Za, ρ, ω, acc, av, ja, k1, e1, k2, e2, ha, ra, by rw [List.drop_zero]; exact hq⟩, ?_⟩
  rintro i m H ⟨rfl, hi, Z, ρ, ω, acc, av, jj, k1, e1, k2, e2, ha, ra, hq⟩
  have hG := w2 Z H ⟨k2, e2⟩
  by_cases hlt : i < ds.length
  · refine .inr ⟨w1.goes i H hlt hG, Pv (i + 1), fun H' p' => ⟨ds.length - (i + 1), by omega, rfl, hlt, p'⟩, fun x H' y => ?_⟩
    obtain ⟨Z3, d, gr, hd, rd⟩ := w3 i H x H' Z ω hlt jj.good ⟨k2, e2⟩ (w1.yields i H x H' hlt hG y)
    have j3 : J (B.blk R) Z3 ρ (L2.wipe σ vs) H' ω := jj.grow (B := B.blk R) gr
    have kk3 : Kp Z H Z3 H' := .of jj.good gr.sub gr.ext
    have hd' : ds.drop i = d :: ds.drop (i + 1) := by
      rw [List.drop_eq_getElem_cons hlt]
      obtain ⟨_, e⟩ := List.getElem?_eq_some_iff.mp hd
      rw [e]
    rw [hd'] at hq
    unfold compL at hq
    refine ⟨R, Z3, ρ, ω, d, j3, rd, ?_⟩
    cases et : t d ρ with
    | none => simp only [et] at hq; exact hq
    | some ρ4 =>
      simp only [et] at hq
      intro σ4 h4 l4 j4
      have hw4 : L2.wipe σ4 vs = L2.wipe σ vs := wipe_eq (fun j hj => h4 j fun z => hj (hsl j z)) l4
      refine ⟨hw4, R, Z3, ρ4, ω, j4, ?_⟩
      cases eb : tt ρ4 ω with
      | bad => simp only [eb, Out.thenB] at hq; exact hq
      | exc c ω' => simp only [eb, Out.thenB] at hq; exact hq.elim
      | ok b ρ5 ω5 =>
        simp only [eb, Out.thenB] at hq
        intro Z5 H5 x5 z5 j5
        have kk5 : Kp Z3 H' Z5 H5 := .of j4.good z5 x5
        have e5 : Ext B.g H H5 := gr.ext.trans x5
        have k5 : Kp Z H Z5 H5 := kk3.trans kk5
        cases b with
        | false =>
          simp only at hq
          simp only [Bool.false_eq_true, if_false]
          exact ⟨Z5, wipeF vs ρ5, ω5, acc, av, by rw [← hw4]; exact j5.wipe vs, k1.trans k5, e1.trans e5, k2.trans k5, hE1 _ _ e2 e5, e5.keep _ _ ha np fix_lst, ra.kp k5, hq⟩
        | true =>
          simp only at hq
          simp only [if_true]
          refine ⟨R, Z5, ρ5, ω5, j5, ?_⟩
          cases ee : te ρ5 ω5 with
          | bad => simp only [ee] at hq; exact hq
          | exc c ω' => simp only [ee] at hq; exact hq.elim
          | ok v ρ6 ω6 =>
            simp only [ee] at hq
            intro Z6 y6 H6 x6 z6 j6 r6
            by_cases hl : acc.length < LIM
            · simp only [hl, if_true] at hq
              have k6 : Kp Z H Z6 H6 := k5.trans (.of j5.good z6 x6)
              have e6 : Ext B.g H H6 := e5.trans x6
              have h6 := e6.keep _ _ ha np fix_lst
              have nz : ¬ Z6 Dn := (j6.res Dn (.inr hR)).1
              have ku : Kp Z6 H6 Z6 (upd H6 Dn (.lst (av ++ [y6]))) := kp_upd nz
              have eu : ∀ {Hx : Hp}, Ext B.g Hx H6 → Hx Dn = none → Ext B.g Hx (upd H6 Dn (.lst (av ++ [y6]))) := fun {Hx} ex hx => ⟨fun p o h n f => by rw [upd_ne (ne_of_none h hx)]; exact ex.keep p o h n f, fun p h => by
                by_cases hp : p = Dn
                · rw [hp]; exact hx
                · rw [upd_ne hp] at h; exact ex.dom p h⟩
              refine ⟨av, h6, by rw [← ra.length, ← lim_eq]; exact hl, Z6, wipeF vs ρ6, ω6, acc ++ [v], av ++ [y6], ?_, (k1.trans k6).trans ku, eu (e1.trans e6) h10, (k2.trans k6).trans ku, hE2 _ _ (hE1 _ _ e2 e6), upd_same, ((ra.kp k6).append (.cons r6 .nil)).kp ku, hq⟩
              rw [← hw4]
              exact (j6.updR (B := B.blk R) (.inr hR) h0 np h6 fix_lst).wipe vs
            · simp only [hl, if_false] at hq
              exact hq.elim
  · have hi' : i = ds.length := by omega
    subst hi'
    rw [List.drop_length] at hq
    exact .inl ⟨w1.stops H hG, hd _ _ _ _ _ _ (hq Z av H jj k1 e1 ha ra)⟩
theorem ext_new {g : Gd} {H1 H : Hp} {p : Addr} {o : HO} (e : Ext g H1 H) (h : H1 p = none) : Ext g H1 (upd H p o) := ⟨fun q u hq n f => by rw [upd_ne (ne_of_none hq h)]; exact e.keep q u hq n f, fun q hq => by
  by_cases hp : q = p
  · rw [hp]; exact h
  · rw [upd_ne hp] at hq; exact e.dom q hq⟩
theorem i_lc {it : EM (List D)} {vs slots : List Nat} {t : TM} {tt : EM Bool} {te : EM D} (hsl : ∀ i ∈ slots, i ∈ vs) : ∀ σ H Q, RdF B (lcM vs it t tt te) σ H Q → tLc (RdIB B it) (ExG B t slots) (ExT B tt) (ExE B te) vs σ H Q := fun σ H Q ⟨Z, ρ, ω, j, h⟩ => by
  refine ⟨Z, ρ, ω, j, ?_⟩
  unfold lcM at h
  cases ea : it ρ ω with
  | bad => simp only [ea, Out.andThen] at h
  | exc c ω' => simp only [ea, Out.andThen] at h; exact h
  | ok ds ρ1 ω1 =>
    simp only [ea, Out.andThen] at h
    intro Z1 H1 It e1 z1 j1 w Dn hD
    by_cases hno : noOwn vs ρ1 = true
    · simp only [hno, if_true] at h
      obtain ⟨n1, n2, n3, n5, n4⟩ := fresh_of j1 hD
      have gr : Grow B.g Z1 H1 Z1 (upd H1 Dn (.lst [])) := grow_new0 hD
      have ja : J (B.blk (· = Dn)) Z1 (wipeF vs ρ1) (L2.wipe σ vs) (upd H1 Dn (.lst [])) ω1 := by
        refine ((j1.grow gr).toBlk (R := (· = Dn)) fun p hp => ?_).wipe vs
        subst hp
        exact ⟨n1, (by rw [upd_same]; intro z; cases z), n4⟩
      have kk : Kp Z1 H1 Z1 (upd H1 Dn (.lst [])) := .of j1.good gr.sub gr.ext
      refine comp_loop (R := (· = Dn)) (Z1 := Z1) (H1 := H1) (Q := fun ρ ω Z xs vs H => Q (.ref Dn) H) (E2 := Ext B.g H1) rfl hD n3 n2 hsl w (fun _ _ a b => a.trans b) (fun _ _ a => ext_new a hD) ja kk gr.ext kk gr.ext upd_same .nil ?_ (fun _ _ _ _ _ _ q => q)
      cases ec : compL vs t tt te ds [] (wipeF vs ρ1) ω1 with
      | bad => simp only [ec, Out.thenB] at h
      | exc c ω' => simp only [ec, Out.thenB] at h
      | ok xs ρ2 ω2 =>
        simp only [ec, Out.thenB] at h
        intro Z2 lv H2 j2 k2 e2 hl rl
        have jr := (j2.ofBlk0 (R := (· = Dn)))
        have jf := J.rest j1 jr k2 hno
        refine h Z2 Dn lv H2 (e1.trans e2) (fun p z => k2.sub p (z1 p z)) jf hl rl (j2.res Dn (.inr rfl)).1 n2 n3 n5 fun i d hi hs => ?_
        -- no own slot stands at the new list
        by_cases hiv : i ∈ vs
        · have hlt : i < ρ2.length := by
            have := (List.getElem?_eq_some_iff.mp hi).1
            rw [restF_len] at this; exact this
          rw [restF_in hiv hlt] at hi
          have hl2 : ρ2.length = ρ1.length := by rw [j2.len, wipe_length, j1.len]
          have hlt1 : i < ρ1.length := by rw [← hl2]; exact hlt
          have := List.all_eq_true.mp hno i hiv
          rw [List.getD_eq_getElem?_getD, List.getElem?_eq_getElem hlt1] at hi
          rw [List.getElem?_eq_getElem hlt1] at this
          have hi' : ρ1[i] = .own d := by simpa using hi
          rw [hi'] at this
          simp [isOwn] at this
        · rw [restF_out hiv] at hi
          obtain ⟨p, q1, q2, q3, q4, q5, q6⟩ := j2.own i d hi
          rw [wipe_out hiv, hs] at q1
          cases q1
          exact q6 (.inr rfl)
    · simp only [hno, if_false] at h
      exact h.elim
theorem f_lc {elt tg iter : Expr} {ifs : List Expr} {scope : Scope} {own : List (Str × Nat)} {it : EM (List D)} {slots : List Nat} {t : TM} {tt : EM Bool} {te : EM D} (hc : X.calm = true) (hN : X.N.Nodup) (hi : PI X tg iter (RdIB B it)) (ok : BlkOk X.N X.env.scope scope own) (hsl : ∀ i ∈ slots, i ∈ own.map (·.2))
    (hg : ∀ (R : Addr → Prop) (s : Shared) (H : Hp) (C : Addr) (cl : List (Str × Addr)) (fp : List Addr), PG (X.blk s H scope (compEnvC scope cl C X.env) fp) tg (RdG (B.blk R) t slots))
    (ht : ∀ (R : Addr → Prop) (s : Shared) (H : Hp) (C : Addr) (cl : List (Str × Addr)) (fp : List Addr), PTs (X.blk s H scope (compEnvC scope cl C X.env) fp) ifs (RdT (B.blk R) tt))
    (he : ∀ (R : Addr → Prop) (s : Shared) (H : Hp) (C : Addr) (cl : List (Str × Addr)) (fp : List Addr), PE (X.blk s H scope (compEnvC scope cl C X.env) fp) elt (RdE (B.blk R) te))
    (hs : ∀ x, foldedSetIterable iter X.env x = pure x := by intro _; rfl) : PE X (.ListComp elt [⟨tg, iter, ifs, 0⟩] scope pos) (RdF B (lcM (own.map (·.2)) it t tt te)) :=
  PE.imp (pe_lc hc hN hi ok (fun s H C cl fp => x_g fun R => hg R s H C cl fp) (fun s H C cl fp => x_t fun R => ht R s H C cl fp) (fun s H C cl fp => x_e fun R => he R s H C cl fp) hs) (i_lc hsl)
/-- y = [..], the list frozen; the list y's own -/
theorem s_setLc {i : Nat} {vs slots : List Nat} {it : EM (List D)} {t : TM} {tt : EM Bool} {te : EM D} (hsl : ∀ i ∈ slots, i ∈ vs) (h : PS X st (tAsg (tLc (RdIB B it) (ExG B t slots) (ExT B tt) (ExE B te) vs) (gName i))) :
    PS X st (RdS B (setS i (frz (lcM vs it t tt te)))) := PS.imp h fun D σ H q => i_lc hsl σ H _ (i_frz σ H _ (i_set D σ H q))
theorem s_ownLc {i : Nat} {vs slots : List Nat} {it : EM (List D)} {t : TM} {tt : EM Bool} {te : EM D} (hsl : ∀ i ∈ slots, i ∈ vs) (h : PS X st (tAsg (tLc (RdIB B it) (ExG B t slots) (ExT B tt) (ExE B te) vs) (gName i))) :
    PS X st (RdS B (ownS i (lcM vs it t tt te))) := PS.imp h fun D σ H q => i_lc hsl σ H _ (i_own D σ H q)
end
end L2.Fl

namespace L2.Fl
open PySem PySem.Spec PyProof.Rows

/-! ### defs and calls -/
structure G0 where
  K : PySem.W.Frag
  tk : Option Addr → Nat → Option V
  T : List PTab
  cls : Nat → Addr
def G0.at (G : G0) (pd : Option Addr) : Gd := ⟨G.K, pd, G.tk pd, G.T⟩
def spM (G : G0) (n : Nat) (fM : FM) : Sp := fun vs H Q E => ∃ (pd : Option Addr) (Z : Addr → Prop) (ds : List D) (ω : W3), Good (G.at pd) Z H ω ∧ RDs (G.tk pd) Z H ds vs ∧ ds.length = n ∧ match fM ds ω with
  | .ok d ω' => ∀ (v : V) (H' : Hp) (Z' : Addr → Prop), Ext (G.at pd) H H' → (∀ p, Z p → Z' p) → (∀ p, Z' p → Z p ∨ H p = none) → Good (G.at pd) Z' H' ω' → RD (G.tk pd) Z' H' d v → Q v H'
  | .exc c ω' => ∀ (d : Option Addr) (H' : Hp) (Z' : Addr → Prop), Ext (G.at pd) H H' → Good (G.at pd) Z' H' ω' → DOk d H' → E (.ref (G.cls c)) d H'
  | .bad => False
def startF (n : Nat) (ds : List D) : Fr := ds.map Slot.val ++ List.replicate (n - ds.length) Slot.no
def runM (n : Nat) (s : SM) : FM := fun ds ω => match s (startF n ds) ω with
  | .rt d ω' => .ok d ω'
  | .nx _ ω' => .ok .non ω'
  | .exc c ω' => .exc c ω'
  | _ => .bad
/-- a def that is known: it stands at the module's name x -/
def Kn (P : Program) (w : World) (K : PySem.W.Frag) (mg : Str → Option Value) (base : Heap) (G : G0) (x : Str) (k n : Nat) (fM : FM) : Prop :=
  ∃ (f : Addr) (fd : FuncData) (ps : List Str), FnOk P w K mg base (CX P w) k f fd ps (spM G n fM) ∧ mg x = some (.ref f) ∧ PySem.W.keepIn K (.ref f) = true ∧ Binds K fd ps []

/-- the body's words are those of the ground -/
structure BOf (G : G0) (B : Bc) : Prop where
  g : ∃ pd, B.g = G.at pd
  cls : B.cls = G.cls
theorem BOf.blk {G : G0} {B : Bc} (h : BOf G B) (R : Addr → Prop) : BOf G (B.blk R) := ⟨h.g, h.cls⟩

theorem start_len (N : List Str) (vs : List V) (h : vs.length ≤ N.length) : (L2.start N vs).length = N.length := by
  unfold L2.start
  rw [List.length_append, List.length_map, List.length_replicate]
  omega
section
variable {P : Program} {w : World} {K : PySem.W.Frag} {mg : Str → Option Value} {base : Heap} {G : G0}
/-- a def of the text, whose code object is cv -/
structure FunC (K : PySem.W.Frag) (x qual : Str) (st : Stmt) (f : Addr) (fd : FuncData) (cv : Value) : Prop where
  ex : ∃ (oc : Value) (od : Option Addr) (kV doc pm : Value) (an : Option Addr) (ct : Value) (osl : Array (Option Value)),
    fd = PySem.W.fnOf x qual (defArgs st) (defBody st) (defScope st) .none kV doc pm an cv ct ∧ K.lookup f = some ⟨oc, od, .func fd, osl⟩ ∧ PySem.W.codeIn K cv qual = true
  kp : PySem.W.keepIn K (.ref f) = true
theorem FunC.toFun {x qual : Str} {st : Stmt} {f : Addr} {fd : FuncData} {cv : Value} (F : FunC K x qual st f fd cv) : Fun K x qual st f fd := by
  obtain ⟨oc, od, kV, doc, pm, an, ct, osl, e1, e2, e3⟩ := F.ex
  exact ⟨⟨oc, od, kV, doc, pm, an, cv, ct, osl, e1, e2, e3⟩, F.kp⟩
theorem funC_mk {x qual : Str} {st : Stmt} {f : Addr} {oc : Value} {od an : Option Addr} {osl : Array (Option Value)} {kV doc pm cdv ct : Value} (l : K.lookup f = some ⟨oc, od, .func (PySem.W.fnOf x qual (defArgs st) (defBody st) (defScope st) .none kV doc pm an cdv ct), osl⟩)
    (c : PySem.W.codeIn K cdv qual = true) (k : PySem.W.keepIn K (.ref f) = true) : FunC K x qual st f (PySem.W.fnOf x qual (defArgs st) (defBody st) (defScope st) .none kV doc pm an cdv ct) cdv := ⟨⟨oc, od, kV, doc, pm, an, ct, osl, rfl, l, c⟩, k⟩
theorem FunC.okX {x qual : Str} {st : Stmt} {f : Addr} {fd : FuncData} {cv : Value} {N ps : List Str} {k : Nat} {sp : Sp} (F : FunC K x qual st f fd cv) (S : FnScope N ps (defScope st)) (len : ∀ vs H Q E, sp vs H Q E → vs.length = ps.length)
    (hbody : ∀ (A : Around) (outer : List Env) (s : Shared) (H : Hp) (vs : List V) (Q : VK) (E : XK), Room k (A.deeper (envOfC qual (defScope st) s.heap.objs.size f cv)) → sp vs H Q E →
      ∃ t, PSs (cxOf (L2.CX P w) P w K mg base N qual (defScope st) f cv A outer s H E) (defBody st) t ∧ t { nx := fun _ H' => Q .non H', rt := Q } (start N vs) H) : FnOk P w K mg base (L2.CX P w) (k + 1) f fd ps sp := by
  obtain ⟨oc, od, kV, doc, pm, an, ct, osl, rfl, lk, hcd⟩ := F.ex
  exact fn_of lk hcd S len hbody
/-- THE RULE for a def -/
theorem mkFn {x qual : Str} {st : Stmt} {f : Addr} {fd : FuncData} {cv : Value} {N ps : List Str} {k n : Nat} {s : SM} (F : FunC K x qual st f fd cv) (S : FnScope N ps (defScope st)) (hn : ps.length = n) (hps : ps.length ≤ N.length)
    (hT : ∀ (A : Around) (outer : List Env) (sh : Shared) (H : Hp) (B : Bc), BOf G B → B.Rz = (fun _ => False) → Room k (A.deeper (envOfC qual (defScope st) sh.heap.objs.size f cv)) →
      PSs (cxOf (CX P w) P w K mg base N qual (defScope st) f cv A outer sh H B.E) (defBody st) (RdS B s)) :
    FnOk P w K mg base (CX P w) (k + 1) f fd ps (spM G n (runM N.length s)) := by
  refine F.okX S (fun vs H Q E h => ?_) (fun A outer sh H vs Q E hr h => ?_)
  · obtain ⟨pd, Z, ds, ω, _, r, l, _⟩ := h
    rw [← r.length, l, hn]
  · obtain ⟨pd, Z, ds, ω, good, r, l, q⟩ := h
    let B : Bc := { g := G.at pd, H0 := H, Z0 := Z, cls := G.cls, Ex := fun c ω' => runM N.length s ds ω = .exc c ω', E := E, Rz := fun _ => False, hE := fun c ω' d H' Z' hx ex gd dk => by rw [hx] at q; exact q d H' Z' ex gd dk }
    have hl : ds.length = vs.length := r.length
    have hlN : vs.length ≤ N.length := by omega
    refine ⟨_, hT A outer sh H B ⟨⟨pd, rfl⟩, rfl⟩ rfl hr, Z, startF N.length ds, ω, ⟨good, .refl, fun _ z => z, fun _ z => .inl z, ?_, fun i d e => ?_, fun i d e => ?_, fun _ z => z.elim, fun i j d e p h1 => ?_⟩, ?_⟩
    · rw [start_len N vs hlN]
      unfold startF
      rw [List.length_append, List.length_map, List.length_replicate]
      omega
    · unfold startF at e
      by_cases hi : i < ds.length
      · rw [List.getElem?_append_left (by simpa using hi), List.getElem?_map] at e
        cases ed : ds[i]? with
        | none => rw [ed] at e; cases e
        | some d' =>
          rw [ed] at e
          cases e
          obtain ⟨v, h1, h2⟩ := r.get ed
          refine ⟨v, ?_, h2⟩
          unfold L2.start
          rw [List.getElem?_append_left (by rw [List.length_map]; omega), List.getElem?_map, h1]
          rfl
      · rw [List.getElem?_append_right (by simpa using hi), List.getElem?_replicate] at e
        split at e <;> cases e
    · exfalso
      unfold startF at e
      by_cases hi : i < ds.length
      · rw [List.getElem?_append_left (by simpa using hi), List.getElem?_map] at e
        cases ed : ds[i]? with
        | none => rw [ed] at e; cases e
        | some d' => rw [ed] at e; cases e
      · rw [List.getElem?_append_right (by simpa using hi), List.getElem?_replicate] at e
        split at e <;> cases e
    · exfalso
      unfold startF at h1
      by_cases hi : i < ds.length
      · rw [List.getElem?_append_left (by simpa using hi), List.getElem?_map] at h1
        cases ed : ds[i]? with
        | none => rw [ed] at h1; cases h1
        | some d' => rw [ed] at h1; cases h1
      · rw [List.getElem?_append_right (by simpa using hi), List.getElem?_replicate] at h1
        split at h1 <;> cases h1
    · have key : ∀ o, s (startF N.length ds) ω = o → Post B { nx := fun _ H' => Q .non H', rt := Q } Z H o := fun o eo => by
        cases o with
        | nx ρ' ω' =>
          intro Z' σ' H' kp j
          have e : runM N.length s ds ω = .ok .non ω' := by unfold runM; rw [eo]
          rw [e] at q
          exact q .non H' Z' j.ext j.z0 j.zn j.good .non
        | rt d ω' =>
          intro Z' ρ' σ' v H' j rd
          have e : runM N.length s ds ω = .ok d ω' := by unfold runM; rw [eo]
          rw [e] at q
          exact q v H' Z' j.ext j.z0 j.zn j.good rd
        | exc c ω' =>
          show runM N.length s ds ω = .exc c ω'
          unfold runM; rw [eo]
        | bk ρ' ω' =>
          have e : runM N.length s ds ω = .bad := by unfold runM; rw [eo]
          rw [e] at q; exact q.elim
        | ct ρ' ω' =>
          have e : runM N.length s ds ω = .bad := by unfold runM; rw [eo]
          rw [e] at q; exact q.elim
        | bad =>
          have e : runM N.length s ds ω = .bad := by unfold runM; rw [eo]
          rw [e] at q; exact q.elim
      exact key _ rfl
theorem mkKn {x : Str} {f : Addr} {fd : FuncData} {ps : List Str} {k n : Nat} {fM : FM} (h : FnOk P w K mg base (CX P w) k f fd ps (spM G n fM)) (hm : mg x = some (.ref f)) (hk : PySem.W.keepIn K (.ref f) = true) (hb : Binds K fd ps []) : Kn P w K mg base G x k n fM := ⟨f, fd, ps, h, hm, hk, hb⟩
end

section
variable {X : Cx} {B : Bc} {G : G0} {e : Expr} {es : List Expr} {x : Str} {p pos : Pos} {st : Stmt}
def callM (fM : FM) (n : Nat) (fa : EM (List D)) : EM D := fun ρ ω => (fa ρ ω).andThen fun ds ρ ω => if ds.length = n then (match fM ds ω with
  | .ok d ω' => .ok d ρ ω'
  | .exc c ω' => .exc c ω'
  | .bad => .bad) else .bad
theorem J.called {Z Z' : Addr → Prop} {ρ : Fr} {σ : L2.St} {H H' : Hp} {ω ω' : W3} (j : J B Z ρ σ H ω) (ex : Ext B.g H H') (sub : ∀ p, Z p → Z' p) (new : ∀ p, Z' p → Z p ∨ H p = none) (good : Good B.g Z' H' ω') : J B Z' ρ σ H' ω' := by
  have kp : Kp Z H Z' H' := .of j.good sub ex
  refine ⟨good, j.ext.trans ex, fun p z => sub p (j.z0 p z), fun p z => ?_, j.len, fun i d e => ?_, fun i d e => ?_, fun p r => ⟨fun z => ?_, fun z => (j.res p r).2 (ex.dom p z)⟩, j.sep⟩
  · rcases new p z with z | z
    · exact j.zn p z
    · exact .inr (j.ext.dom p z)
  · obtain ⟨v, h1, h2⟩ := j.val i d e
    exact ⟨v, h1, h2.kp kp⟩
  · obtain ⟨p, h1, h2, h3, h4, h5, h6⟩ := j.own i d e
    refine ⟨p, h1, h2.ext j.good sub ex h4, fun z => ?_, h4, h5, h6⟩
    rcases new p z with z | z
    · exact h3 z
    · obtain ⟨o, ho, _⟩ := h2.there
      rw [z] at ho; cases ho
  · rcases new p z with z | z
    · exact (j.res p r).1 z
    · exact (j.res p r).2 z
theorem i_call {fM : FM} {n : Nat} {fa : EM (List D)} (hB : BOf G B) : ∀ σ H Q, RdE B (callM fM n fa) σ H Q → tCall (spM G n fM) [] B.E (RdA B fa) σ H Q := fun σ H Q ⟨Z, ρ, ω, j, h⟩ => by
  refine ⟨Z, ρ, ω, j, ?_⟩
  unfold callM at h
  cases ea : fa ρ ω with
  | bad => simp only [ea, Out.andThen] at h
  | exc c ω' => simp only [ea, Out.andThen] at h; exact h
  | ok ds ρ1 ω1 =>
    simp only [ea, Out.andThen] at h
    intro Z1 vs H1 e1 z1 j1 r1
    by_cases hl : ds.length = n
    · rw [if_pos hl] at h
      obtain ⟨⟨pd, eg⟩, ec⟩ := hB
      have ek : B.g.tk = G.tk pd := by rw [eg]; rfl
      refine ⟨pd, Z1, ds, ω1, by rw [← eg]; exact j1.good, by rw [← ek, List.append_nil]; exact r1, hl, ?_⟩
      cases em : fM ds ω1 with
      | bad => simp only [em] at h
      | exc c ω' =>
        simp only [em] at h
        intro d H' Z' ex gd dk
        rw [← eg] at ex gd
        rw [← ec]
        exact B.hE c ω' d H' Z' h (j1.ext.trans ex) gd dk
      | ok d ω' =>
        simp only [em] at h
        intro v H' Z' ex sub new gd rd
        rw [← eg] at ex gd
        rw [← ek] at rd
        exact h Z' v H' (e1.trans ex) (fun p z => sub p (z1 p z)) (j1.called ex sub new gd) rd
    · rw [if_neg hl] at h
      exact h.elim
theorem m_call {fM : FM} {k j n : Nat} {fa : EM (List D)} (kn : Kn X.prog X.w X.K X.mg X.base G x j n fM) (hB : BOf G B) (hr : Room k X.A) (hk : j ≤ k) (hg : Gl X x) (hx : Passes (CX X.prog X.w) X B.E) (ha : PA X (e :: es) (RdA B fa))
    (hdb : (x == ("__debug__" : Str)) = false := by decide) (he : starEach (e :: es) X.env = (false, eval e X.env) :: starEach es X.env := by rfl) (hpl : (backTo pos (starEach es X.env)).any (·.1) = false := by rfl) :
    PE X (.Call (.Name x p) (e :: es) [] pos) (RdE B (callM fM n fa)) := by
  obtain ⟨f, fd, ps, F, hm, hkp, hb⟩ := kn
  exact PE.imp (pe_call F (hr.mono hk) hg hm hkp hb .nil hx ha hdb he hpl) (i_call hB)
theorem passF {P : Program} {w : World} {K : PySem.W.Frag} {mg : Str → Option Value} {base : Heap} {N : List Str} {qual : Str} {scope : Scope} {f : Addr} {cd : Value} {A : Around} {outer : List Env} {s : Shared} {H : Hp} {E : XK} :
    Passes (CX P w) (cxOf (CX P w) P w K mg base N qual scope f cd A outer s H E) E := passes_call (X := cxOf (CX P w) P w K mg base N qual scope f cd A outer s H E) (W := fun cls d _ H => E cls d H) (takes_of rfl rfl rfl rfl) (fun _ _ _ _ h => h)
theorem ownF {P : Program} {w : World} {K : PySem.W.Frag} {mg : Str → Option Value} {base : Heap} {N : List Str} {qual : Str} {scope : Scope} {f : Addr} {cd : Value} {A : Around} {outer : List Env} {s : Shared} {H : Hp} {E : XK} :
    PassesOwn (model P w) (cxOf (CX P w) P w K mg base N qual scope f cd A outer s H E).A (cxOf (CX P w) P w K mg base N qual scope f cd A outer s H E).env (cxOf (CX P w) P w K mg base N qual scope f cd A outer s H E).xe :=
  passes_of (X := cxOf (CX P w) P w K mg base N qual scope f cd A outer s H E) rfl
/-- raise -/
def raS (c : Nat) : SM := fun _ ω => .exc c ω
theorem s_raise {c : Nat} (h : PS X st (fun _ _ H => B.E (.ref (B.cls c)) none H)) : PS X st (RdS B (raS c)) := PS.imp h fun D σ H ⟨Z, ρ, ω, j, q⟩ => B.hE c ω none H Z q j.ext j.good .no
end
end L2.Fl

namespace L2.Fl
open PySem PySem.Spec PyProof.Rows

/-- the built-ins' names are the built-ins' -/
structure Bn (mg : Str → Option Value) : Prop where
  abs : mg "abs" = none
  all : mg "all" = none
  any : mg "any" = none
  bool : mg "bool" = none
  dict : mg "dict" = none
  enumerate : mg "enumerate" = none
  int : mg "int" = none
  isinstance : mg "isinstance" = none
  len : mg "len" = none
  list : mg "list" = none
  max : mg "max" = none
  min : mg "min" = none
  range : mg "range" = none
  reversed : mg "reversed" = none
  sorted : mg "sorted" = none
  sum : mg "sum" = none
  tuple : mg "tuple" = none
  zip : mg "zip" = none

section
variable {X : Cx} {B : Bc} {e a b c : Expr} {pos : Pos} {fa fb : EM D} {k : Nat}
theorem eAdd (ha : PE X a (RdB B fa)) (hb : PE X b (RdB B fb)) : PE X (.BinOp a .Add b pos) (RdE B (op2 addD fa fb)) := m_op2 sim_add (fun ta tb ha hb => pe_op op_addA ha hb) ha hb
theorem eSub (ha : PE X a (RdB B fa)) (hb : PE X b (RdB B fb)) : PE X (.BinOp a .Sub b pos) (RdE B (op2 subD fa fb)) := m_op2 sim_sub (fun ta tb ha hb => pe_op op_sub ha hb) ha hb
theorem eMul (ha : PE X a (RdB B fa)) (hb : PE X b (RdB B fb)) : PE X (.BinOp a .Mult b pos) (RdE B (op2 mulD fa fb)) := m_op2 sim_mul (fun ta tb ha hb => pe_op op_mul ha hb) ha hb
theorem eDiv (ha : PE X a (RdB B fa)) (hb : PE X b (RdB B fb)) : PE X (.BinOp a .FloorDiv b pos) (RdE B (op2 fdivD fa fb)) := m_op2 sim_fdiv (fun ta tb ha hb => pe_op op_fdivN ha hb) ha hb
theorem eMod (ha : PE X a (RdB B fa)) (hb : PE X b (RdB B fb)) : PE X (.BinOp a .Mod b pos) (RdE B (op2 modD fa fb)) := m_op2 sim_mod (fun ta tb ha hb => pe_op op_modN ha hb) ha hb
theorem ePow (ha : PE X a (RdB B fa)) (hb : PE X b (RdB B fb)) : PE X (.BinOp a .Pow b pos) (RdE B (op2 powD fa fb)) := m_op2 sim_pow (fun ta tb ha hb => pe_op op_pow ha hb) ha hb
theorem eNeg (ha : PE X a (RdB B fa)) : PE X (.UnaryOp .USub a pos) (RdE B (op1 negD fa)) := m_op1 sim_neg (fun ta ha => pe_un un_neg ha) ha
theorem eIx (ha : PE X a (RdB B fa)) (hb : PE X b (RdB B fb)) (hs : PlainIx b := by intro _ _; rfl) : PE X (.Subscript a b pos) (RdE B (op2 ixD fa fb)) := m_op2 sim_ix (fun ta tb ha hb => pe_ix ix_A ha hb hs) ha hb
theorem room65 (hr : Room k X.A) : X.A.units + 65 < cLine := by have := hr.un; omega
theorem room64 (hr : Room k X.A) : X.A.units + 64 < cLine := by have := hr.un; omega
/-! comparisons -/
theorem tEq (hr : Room k X.A) (ha : PE X a (RdB B fa)) (hb : PE X b (RdB B fb)) : PT X (.Compare a [.Eq] [b] pos) (RdT B (asB (op2 eqD fa fb))) := m_tcmp sim_eq (op_eqD (room64 hr)) ha hb (nomark _)
theorem tNe (hr : Room k X.A) (ha : PE X a (RdB B fa)) (hb : PE X b (RdB B fb)) : PT X (.Compare a [.NotEq] [b] pos) (RdT B (asB (op2 neD fa fb))) := m_tcmp sim_ne (op_neD (room64 hr)) ha hb (nomark _)
theorem tLt (ha : PE X a (RdB B fa)) (hb : PE X b (RdB B fb)) : PT X (.Compare a [.Lt] [b] pos) (RdT B (asB (op2 ltD fa fb))) := m_tcmp sim_lt op_lt ha hb (nomark _)
theorem tLe (ha : PE X a (RdB B fa)) (hb : PE X b (RdB B fb)) : PT X (.Compare a [.LtE] [b] pos) (RdT B (asB (op2 leD fa fb))) := m_tcmp sim_le op_le ha hb (nomark _)
theorem tGt (ha : PE X a (RdB B fa)) (hb : PE X b (RdB B fb)) : PT X (.Compare a [.Gt] [b] pos) (RdT B (asB (op2 gtD fa fb))) := m_tcmp sim_gt op_gt ha hb (nomark _)
theorem tGe (ha : PE X a (RdB B fa)) (hb : PE X b (RdB B fb)) : PT X (.Compare a [.GtE] [b] pos) (RdT B (asB (op2 geD fa fb))) := m_tcmp sim_ge op_ge ha hb (nomark _)
theorem tIn (hr : Room k X.A) (ha : PE X a (RdB B fa)) (hb : PE X b (RdB B fb)) (hm : behindInMarks .In b = false := by rfl) : PT X (.Compare a [.In] [b] pos) (RdT B (asB (op2 inD fa fb))) := m_tcmp sim_in (op_inB (room65 hr)) ha hb hm
theorem tNotIn (hr : Room k X.A) (ha : PE X a (RdB B fa)) (hb : PE X b (RdB B fb)) (hm : behindInMarks .NotIn b = false := by rfl) : PT X (.Compare a [.NotIn] [b] pos) (RdT B (asB (op2 notInD fa fb))) := m_tcmp sim_notIn (op_notInB (room65 hr)) ha hb hm
theorem eEq (hr : Room k X.A) (ha : PE X a (RdB B fa)) (hb : PE X b (RdB B fb)) : PE X (.Compare a [.Eq] [b] pos) (RdE B (op2 eqD fa fb)) := m_cmp sim_eq (op_eqD (room64 hr)) ha hb (nomark _)
theorem eNe (hr : Room k X.A) (ha : PE X a (RdB B fa)) (hb : PE X b (RdB B fb)) : PE X (.Compare a [.NotEq] [b] pos) (RdE B (op2 neD fa fb)) := m_cmp sim_ne (op_neD (room64 hr)) ha hb (nomark _)
theorem eLt (ha : PE X a (RdB B fa)) (hb : PE X b (RdB B fb)) : PE X (.Compare a [.Lt] [b] pos) (RdE B (op2 ltD fa fb)) := m_cmp sim_lt op_lt ha hb (nomark _)
theorem eLe (ha : PE X a (RdB B fa)) (hb : PE X b (RdB B fb)) : PE X (.Compare a [.LtE] [b] pos) (RdE B (op2 leD fa fb)) := m_cmp sim_le op_le ha hb (nomark _)
theorem eGt (ha : PE X a (RdB B fa)) (hb : PE X b (RdB B fb)) : PE X (.Compare a [.Gt] [b] pos) (RdE B (op2 gtD fa fb)) := m_cmp sim_gt op_gt ha hb (nomark _)
theorem eGe (ha : PE X a (RdB B fa)) (hb : PE X b (RdB B fb)) : PE X (.Compare a [.GtE] [b] pos) (RdE B (op2 geD fa fb)) := m_cmp sim_ge op_ge ha hb (nomark _)
theorem eIn (hr : Room k X.A) (ha : PE X a (RdB B fa)) (hb : PE X b (RdB B fb)) (hm : behindInMarks .In b = false := by rfl) : PE X (.Compare a [.In] [b] pos) (RdE B (op2 inD fa fb)) := m_cmp sim_in (op_inB (room65 hr)) ha hb hm
theorem eNotIn (hr : Room k X.A) (ha : PE X a (RdB B fa)) (hb : PE X b (RdB B fb)) (hm : behindInMarks .NotIn b = false := by rfl) : PE X (.Compare a [.NotIn] [b] pos) (RdE B (op2 notInD fa fb)) := m_cmp sim_notIn (op_notInB (room65 hr)) ha hb hm
theorem tIsN (ha : PE X a (RdB B fa)) (hb : PE X b (RdB B fb)) : PT X (.Compare a [.Is] [b] pos) (RdT B (asB (op2 isN2 fa fb))) := m_tcmp sim_isN op_isN ha hb (nomark _)
theorem eIsN (ha : PE X a (RdB B fa)) (hb : PE X b (RdB B fb)) : PE X (.Compare a [.Is] [b] pos) (RdE B (op2 isN2 fa fb)) := m_cmp sim_isN op_isN ha hb (nomark _)
/-! chains of two -/
variable {fc : EM D}
theorem tCh {op op' : CmpOp} {r r' : R2} {f f' : D → D → Option D} (hs : Sim2 B.g r f) (hs' : Sim2 B.g r' f') (ho : OpR X (compareOp op) r) (ho' : OpR X (compareOp op') r') (ha : PE X a (RdB B fa)) (hb : PE X b (RdB B fb)) (hc : PE X c (RdB B fc))
    (hm : lastMarks [op, op'] [b, c] = false := by with_unfolding_all rfl) : PT X (.Compare a [op, op'] [b, c] pos) (RdT B (asB (chM f f' fa fb fc))) := m_tch hs hs' (pt_chain ho ho' ha hb hc hm)
theorem eCh {op op' : CmpOp} {r r' : R2} {f f' : D → D → Option D} (hs : Sim2 B.g r f) (hs' : Sim2 B.g r' f') (ho : OpR X (compareOp op) r) (ho' : OpR X (compareOp op') r') (ha : PE X a (RdB B fa)) (hb : PE X b (RdB B fb)) (hc : PE X c (RdB B fc))
    (hm : lastMarks [op, op'] [b, c] = false := by with_unfolding_all rfl) : PE X (.Compare a [op, op'] [b, c] pos) (RdE B (chM f f' fa fb fc)) := m_ch hs hs' ho ho' (pe_chain ho ho' ha hb hc hm)
/-! and, or as tests -/
theorem tW {e : Expr} {f : EM Bool} (h : PW X e (RdT B f)) (hc : ∀ whole, isTrue e X.env whole = isTrue e X.env whole := by intro _; rfl) : PW X e (RdT B f) := h
end

/-! ### built-ins of one, of two things -/
section
variable {X : Cx} {B : Bc} {e a b : Expr} {p pos : Pos} {fa fb : EM D}
theorem eLen (hb : Bn X.mg) (ha : PE X a (RdB B fa)) (hg : Gl X "len" := by rfl) (he : starEach [a] X.env = (false, eval a X.env) :: starEach [] X.env := by rfl) (hpl : (backTo pos (starEach [] X.env)).any (·.1) = false := by rfl) :
    PE X (.Call (.Name "len" p) [a] [] pos) (RdE B (op1 lenD fa)) := m_op1 sim_len (fun ta ha => pe_callB call_len_seq hg hb.len PySem.boot_len (pa_cons ha pa_nil he) (he := he) (hpl := hpl)) ha
theorem eAbs (hb : Bn X.mg) (ha : PE X a (RdB B fa)) (hg : Gl X "abs" := by rfl) (he : starEach [a] X.env = (false, eval a X.env) :: starEach [] X.env := by rfl) (hpl : (backTo pos (starEach [] X.env)).any (·.1) = false := by rfl) :
    PE X (.Call (.Name "abs" p) [a] [] pos) (RdE B (op1 absD fa)) := m_op1 sim_abs (fun ta ha => pe_callB call_abs hg hb.abs (by first | exact PySem.boot_abs | exact PyProof.Rows.boot_abs | decide +kernel) (pa_cons ha pa_nil he) (he := he) (hpl := hpl)) ha
theorem eInt (hb : Bn X.mg) (ha : PE X a (RdB B fa)) (hg : Gl X "int" := by rfl) (he : starEach [a] X.env = (false, eval a X.env) :: starEach [] X.env := by rfl) (hpl : (backTo pos (starEach [] X.env)).any (·.1) = false := by rfl) :
    PE X (.Call (.Name "int" p) [a] [] pos) (RdE B (op1 intD fa)) := m_op1 sim_int (fun ta ha => pe_callTy call_int1 hg hb.int (by decide +kernel) (pa_cons ha pa_nil he) (he := he) (hpl := hpl)) ha
theorem eTuple (hb : Bn X.mg) (ha : PE X a (RdB B fa)) (hg : Gl X "tuple" := by rfl) (he : starEach [a] X.env = (false, eval a X.env) :: starEach [] X.env := by rfl) (hpl : (backTo pos (starEach [] X.env)).any (·.1) = false := by rfl) :
    PE X (.Call (.Name "tuple" p) [a] [] pos) (RdE B (op1 tupOf fa)) := m_op1 sim_tupOf (fun ta ha => pe_callTy call_tuple_of hg hb.tuple (by decide +kernel) (pa_cons ha pa_nil he) (he := he) (hpl := hpl)) ha
theorem fList (hb : Bn X.mg) (ha : PE X a (RdB B fa)) (hg : Gl X "list" := by rfl) (he : starEach [a] X.env = (false, eval a X.env) :: starEach [] X.env := by rfl) (hpl : (backTo pos (starEach [] X.env)).any (·.1) = false := by rfl) :
    PE X (.Call (.Name "list" p) [a] [] pos) (RdF B (opF1 items? fa)) := f_op1 simF_listOf (pe_callTy call_list_of hg hb.list (by decide +kernel) (pa_cons ha pa_nil he) (he := he) (hpl := hpl))
theorem eSum (hc : X.calm = true) (hb : Bn X.mg) (ha : PE X a (RdB B fa)) (hg : Gl X "sum" := by rfl) (he : starEach [a] X.env = (false, eval a X.env) :: starEach [] X.env := by rfl) (hpl : (backTo pos (starEach [] X.env)).any (·.1) = false := by rfl) :
    PE X (.Call (.Name "sum" p) [a] [] pos) (RdE B (op1 sumD fa)) := m_op1 sim_sum (fun ta ha => pe_callB (cr_sum hc) hg hb.sum (by decide +kernel) (pa_cons ha pa_nil he) (he := he) (hpl := hpl)) ha
theorem eMax2 (hc : X.calm = true) (hb : Bn X.mg) (h1 : PE X a (RdB B fa)) (h2 : PE X b (RdB B fb)) (hg : Gl X "max" := by rfl) (he : starEach [a, b] X.env = (false, eval a X.env) :: starEach [b] X.env := by rfl) (he2 : starEach [b] X.env = (false, eval b X.env) :: starEach [] X.env := by rfl) (hpl : (backTo pos (starEach [b] X.env)).any (·.1) = false := by rfl) :
    PE X (.Call (.Name "max" p) [a, b] [] pos) (RdE B (op2 max2D fa fb)) := m_op2 sim_max2 (fun ta tb ha hb' => pe_callB (call_max2 hc) hg hb.max (by decide +kernel) (pa_cons ha (pa_cons hb' pa_nil he2) he) (he := he) (hpl := hpl)) h1 h2
theorem eMin2 (hc : X.calm = true) (hb : Bn X.mg) (h1 : PE X a (RdB B fa)) (h2 : PE X b (RdB B fb)) (hg : Gl X "min" := by rfl) (he : starEach [a, b] X.env = (false, eval a X.env) :: starEach [b] X.env := by rfl) (he2 : starEach [b] X.env = (false, eval b X.env) :: starEach [] X.env := by rfl) (hpl : (backTo pos (starEach [b] X.env)).any (·.1) = false := by rfl) :
    PE X (.Call (.Name "min" p) [a, b] [] pos) (RdE B (op2 min2D fa fb)) := m_op2 sim_min2 (fun ta tb ha hb' => pe_callB (call_min2 hc) hg hb.min (by decide +kernel) (pa_cons ha (pa_cons hb' pa_nil he2) he) (he := he) (hpl := hpl)) h1 h2
end
end L2.Fl

namespace L2.Fl
open PySem PySem.Spec PyProof.Rows

/-! ### the dice -/
section
variable {X : Cx} {B : Bc} {e a b c o : Expr} {p pos apos cpos tpos : Pos} {st : Stmt} {fa fb : EM D}
def w3 (ω : W3) : Nat → Option Int
  | 0 => some ω.1
  | 1 => some ω.2.1
  | 2 => some ω.2.2
  | _ => none
def w3set (ω : W3) (i : Int) : Nat → Option W3
  | 0 => some (i, ω.2.1, ω.2.2)
  | 1 => some (ω.1, i, ω.2.2)
  | 2 => some (ω.1, ω.2.1, i)
  | _ => none
def isTok (ρ : Fr) (i : Nat) : Bool := match ρ[i]? with
  | some (.val (.tok 0)) => true
  | _ => false
def diceM (i k : Nat) : EM D := fun ρ ω => if isTok ρ i then (match w3 ω k with
  | some v => .ok (.int v) ρ ω
  | none => .bad) else .bad
theorem RD.tok_inv {tk : Nat → Option V} {Z : Addr → Prop} {H : Hp} {n : Nat} {v : V} (r : RD tk Z H (.tok n) v) : tk n = some v := by
  cases r with
  | tok h => exact h
  | obj _ ro => cases ro
theorem isTok_some {ρ : Fr} {i : Nat} (h : isTok ρ i = true) : ρ[i]? = some (.val (.tok 0)) := by
  unfold isTok at h
  split at h
  · assumption
  · cases h
theorem m_dice {i k : Nat} (ht : B.g.tk 0 = B.g.pd.map V.ref) (ho : PE X o (tVar i)) (hk : PE X a (tC (.int (k : Int)))) (hs : PlainIx a := by intro _ _; rfl) : PE X (.Subscript o a pos) (RdE B (diceM i k)) := PE.imp (pe_ix ix_list ho hk hs) fun σ H Q ⟨Z, ρ, ω, j, h⟩ => by
  unfold diceM at h
  by_cases hi : isTok ρ i = true
  · rw [if_pos hi] at h
    obtain ⟨v, h1, h2⟩ := j.val i _ (isTok_some hi)
    have e := h2.tok_inv
    rw [ht] at e
    obtain ⟨qd, eq, e⟩ := Option.map_eq_some_iff.mp e
    subst e
    refine ⟨.ref qd, h1, ?_⟩
    have hd := SqL.of (K := X.K) (j.good.dice qd eq)
    have go : ∀ v, w3 ω k = some v → rIxL X.K (.ref qd) (.int (k : Int)) H Q := fun v hv => by
      rw [hv] at h
      refine ⟨qd, _, (k : Int), .int v, rfl, rfl, hd, atI_nat ?_, h Z _ H .refl (fun _ z => z) j (.int v)⟩
      match k, hv with
      | 0, hv => cases hv; rfl
      | 1, hv => cases hv; rfl
      | 2, hv => cases hv; rfl
    cases hv : w3 ω k with
    | none => rw [hv] at h; exact h.elim
    | some v => exact go v hv
  · rw [if_neg hi] at h
    exact h.elim
theorem J.roll {Z : Addr → Prop} {ρ : Fr} {σ : L2.St} {H : Hp} {ω ω' : W3} (j : J B Z ρ σ H ω) {qd : Addr} (eq : B.g.pd = some qd) : J B Z ρ σ (upd H qd (.lst [.int ω'.1, .int ω'.2.1, .int ω'.2.2])) ω' := by
  have kz : ∀ q u, ZT Z H q → H q = some u → upd H qd (.lst [.int ω'.1, .int ω'.2.1, .int ω'.2.2]) q = some u := fun q u z h => by rw [upd_ne (fun (e : q = qd) => j.good.npd z (by rw [eq, e]))]; exact h
  refine ⟨⟨fun q z => ?_, fun q' e' => by rw [eq] at e'; cases e'; exact upd_same, fun P hP => ?_⟩, ⟨fun q u h n f => ?_, fun q h => ?_⟩, j.z0, j.zn, j.len, fun k e ek => ?_, fun k e ek => ?_, fun q rr => ⟨(j.res q rr).1, fun z => ?_⟩, j.sep⟩
  · obtain ⟨n, u, h, f⟩ := j.good.zs q z
    exact ⟨n, u, kz q u (.inl z) h, f⟩
  · exact (j.good.tabs P hP).upd (j.good.dice _ eq) (fun _ => nofun) (fun _ => nofun)
  · rw [upd_ne (fun (e : q = qd) => n (by rw [eq, e]))]; exact j.ext.keep q u h n f
  · by_cases hq : q = qd
    · rw [hq, upd_same] at h; cases h
    · rw [upd_ne hq] at h; exact j.ext.dom q h
  · obtain ⟨v, q1, q2⟩ := j.val k e ek
    exact ⟨v, q1, q2.mono (fun _ z => z) kz⟩
  · obtain ⟨q, q1, q2, q3, q4, q5, q6⟩ := j.own k e ek
    exact ⟨q, q1, q2.mono (fun _ z => z) kz (fun u h => by rw [upd_ne (fun (e : q = qd) => q4 (by rw [eq, e]))]; exact h), q3, q4, q5, q6⟩
  · by_cases hq : q = qd
    · rw [hq, upd_same] at z; cases z
    · rw [upd_ne hq] at z; exact (j.res q rr).2 z
/-- dice[k] = e -/
def diceS (i k : Nat) (f : EM D) : SM := fun ρ ω => (f ρ ω).stm fun d ρ ω => match d with
  | .int v => if isTok ρ i then (match w3set ω v k with
    | some ω' => .nx ρ ω'
    | none => .bad) else .bad
  | _ => .bad
theorem s_dice {i k : Nat} {f : EM D} (ht : B.g.tk 0 = B.g.pd.map V.ref) (h : PS X st (tAsg (RdE B f) (gSub (tVar i) (tC (.int (k : Int))) rSetL))) : PS X st (RdS B (diceS i k f)) := PS.imp h fun D σ H ⟨Z, ρ, ω, j, q⟩ => by
  refine ⟨Z, ρ, ω, j, ?_⟩
  unfold diceS at q
  cases ea : f ρ ω with
  | bad => simp only [ea, Out.stm] at q; exact q
  | exc c ω' => simp only [ea, Out.stm] at q; exact q
  | ok d ρ1 ω1 =>
    simp only [ea, Out.stm] at q
    intro Z1 v H1 e1 z1 j1 r1
    cases d with
    | int n =>
      simp only at q
      have := BR.int (g := B.g) (.inl r1)
      subst this
      by_cases hi : isTok ρ1 i = true
      · rw [if_pos hi] at q
        obtain ⟨v, h1, h2⟩ := j1.val i _ (isTok_some hi)
        have e := h2.tok_inv
        rw [ht] at e
        obtain ⟨qd, eq, e⟩ := Option.map_eq_some_iff.mp e
        subst e
        have hd := j1.good.dice qd eq
        refine ⟨.ref qd, h1, ?_⟩
        have go : ∀ (kk : Nat) (xs' : List V) (ω' : W3), w3set ω1 n k = some ω' → ixN 3 (k : Int) = some kk → ([V.int ω1.1, .int ω1.2.1, .int ω1.2.2].set kk (.int n)) = [V.int ω'.1, .int ω'.2.1, .int ω'.2.2] → rSetL (.ref qd) (.int (k : Int)) (.int n) H1 fun H3 => D.nx σ H3 := fun kk xs' ω' hw hk hx => by
          rw [hw] at q
          refine ⟨qd, _, (k : Int), kk, rfl, rfl, hd, hk, ?_⟩
          rw [hx]
          have kz : Kp Z1 H1 Z1 (upd H1 qd (.lst [.int ω'.1, .int ω'.2.1, .int ω'.2.2])) := ⟨fun _ z => z, fun q u z h => by rw [upd_ne (fun (e : q = qd) => j1.good.npd z (by rw [eq, e]))]; exact h⟩
          exact q Z1 σ _ ((Kp.of j.good z1 e1).trans kz) (j1.roll (ω' := ω') eq)
        match k, q, go with
        | 0, q, go => exact go 0 [] _ rfl rfl rfl
        | 1, q, go => exact go 1 [] _ rfl rfl rfl
        | 2, q, go => exact go 2 [] _ rfl rfl rfl
        | k + 3, q, go => exact q.elim
      · rw [if_neg hi] at q
        exact q.elim
    | _ => exact q.elim

/-! ### slices -/
def cutD (xs : List D) (lo hi : Option Int) : List D := (xs.drop (HT.sIx xs.length 0 lo)).take (HT.sIx xs.length xs.length hi - HT.sIx xs.length 0 lo)
theorem RDs.cut {tk : Nat → Option V} {Z : Addr → Prop} {H : Hp} {ds : List D} {vs : List V} (r : RDs tk Z H ds vs) (lo hi : Option Int) : RDs tk Z H (cutD ds lo hi) (cutV vs lo hi) := by
  unfold cutD cutV
  rw [r.length]
  exact (r.drop _).take _
def partM (f : EM D) : EM (Option Int) := fun ρ ω => (f ρ ω).andThen fun d ρ ω => match d with
  | .int i => .ok (some i) ρ ω
  | _ => .bad
def noM : EM (Option Int) := fun ρ ω => .ok none ρ ω
def RdO (B : Bc) (f : EM (Option Int)) : TO := fun σ H Q => ∃ Z ρ ω, J B Z ρ σ H ω ∧ match f ρ ω with
  | .ok d ρ' ω' => ∀ (Z' : Addr → Prop) (H' : Hp), Ext B.g H H' → (∀ p, Z p → Z' p) → J B Z' ρ' σ H' ω' → Q d H'
  | .exc c ω' => B.Ex c ω'
  | .bad => False
theorem PO.imp {o : Option Expr} {t t' : TO} (h : PO X o t) (i : ∀ σ H Q, t' σ H Q → t σ H Q) : PO X o t' := ⟨fun pins s σ H Q I q => h.run pins s σ H Q I (i σ H Q q)⟩
theorem o_no : PO X none (RdO B noM) := PO.imp po_none fun σ H Q ⟨Z, ρ, ω, j, h⟩ => h Z H .refl (fun _ z => z) j
theorem o_some {f : EM D} (h : PE X e (RdB B f)) : PO X (some e) (RdO B (partM f)) := PO.imp (po_some h) fun σ H Q ⟨Z, ρ, ω, j, h⟩ => by
  refine ⟨Z, ρ, ω, j, ?_⟩
  unfold partM at h
  cases ea : f ρ ω with
  | bad => simp only [ea, Out.andThen] at h
  | exc c ω' => simp only [ea, Out.andThen] at h; exact h
  | ok d ρ1 ω1 =>
    simp only [ea, Out.andThen] at h
    intro Z1 v H1 e1 z1 j1 r1
    cases d with
    | int i =>
      have := r1.int
      subst this
      exact ⟨i, rfl, h Z1 H1 e1 z1 j1⟩
    | _ => exact h.elim
def slM (f : EM D) (l u : EM (Option Int)) : EM D := fun ρ ω => (f ρ ω).andThen fun d ρ ω => (l ρ ω).andThen fun lo ρ ω => (u ρ ω).andThen fun hi => match d with
  | .lst xs => optM (some (.lst (cutD xs lo hi)))
  | .tup xs => optM (some (.tup (cutD xs lo hi)))
  | _ => fun _ _ => .bad
theorem whole_cut {α : Type} (xs : List α) (lo hi : Option Int) (h : HT.sIx xs.length 0 lo = 0 ∧ HT.sIx xs.length xs.length hi = xs.length) : (xs.drop (HT.sIx xs.length 0 lo)).take (HT.sIx xs.length xs.length hi - HT.sIx xs.length 0 lo) = xs := by
  rw [h.1, h.2]; simp
theorem eSl {l u : Option Expr} {p2 : Pos} {f : EM D} {fl fu : EM (Option Int)} (he : PE X e (RdB B f)) (hl : PO X l (RdO B fl)) (hu : PO X u (RdO B fu)) : PE X (.Subscript e (.Slice l u none p2) pos) (RdE B (slM f fl fu)) :=
  PE.imp (pe_slice (sl_list.or sl_tupA) he hl hu) fun σ H Q ⟨Z, ρ, ω, j, h⟩ => by
  refine ⟨Z, ρ, ω, j, ?_⟩
  unfold slM at h
  cases ea : f ρ ω with
  | bad => simp only [ea, Out.andThen] at h
  | exc c ω' => simp only [ea, Out.andThen] at h; exact h
  | ok d ρ1 ω1 =>
    simp only [ea, Out.andThen] at h
    intro Z1 x H1 e1 z1 j1 r1
    refine ⟨Z1, ρ1, ω1, j1, ?_⟩
    cases el : fl ρ1 ω1 with
    | bad => simp only [el] at h
    | exc c ω' => simp only [el] at h; exact h
    | ok lo ρ2 ω2 =>
      simp only [el] at h
      intro Z2 H2 e2 z2 j2
      refine ⟨Z2, ρ2, ω2, j2, ?_⟩
      cases eu : fu ρ2 ω2 with
      | bad => simp only [eu] at h
      | exc c ω' => simp only [eu] at h; exact h
      | ok hi ρ3 ω3 =>
        simp only [eu] at h
        intro Z3 H3 e3 z3 j3
        have r3 : BR B.g Z3 H3 d x := (r1.ext j1.good z2 e2).ext j2.good z3 e3
        have e03 : Ext B.g H H3 := e1.trans (e2.trans e3)
        have z03 : ∀ p, Z p → Z3 p := fun p z => z3 p (z2 p (z1 p z))
        cases d with
        | lst xs =>
          simp only [optM] at h
          obtain ⟨p, vs, rfl, hp, rs⟩ := r3.lst
          refine .inl ⟨p, vs, rfl, SqL.of hp, fun q hq => ?_⟩
          have gr := grow_new (g := B.g) (Z := Z3) (o := .lst (cutV vs lo hi)) hq fix_lst
          exact h _ _ _ (e03.trans gr.ext) (fun p z => .inl (z03 p z)) (j3.grow gr) (rd_newL hq (rs.cut lo hi))
        | tup xs =>
          simp only [optM] at h
          obtain ⟨p, vs, rfl, hp, rs⟩ := r3.tup
          refine .inr ⟨p, vs, rfl, SqT.of hp, fun hw => ?_, fun _ q hq => ?_⟩
          · rw [← rs.length] at hw
            have ec : cutD xs lo hi = xs := whole_cut xs lo hi hw
            rw [ec] at h
            exact h Z3 _ H3 e03 z03 j3 (.tup hp rs)
          · have gr := grow_new (g := B.g) (Z := Z3) (o := .tup (cutV vs lo hi)) hq fix_tup
            exact h _ _ _ (e03.trans gr.ext) (fun p z => .inl (z03 p z)) (j3.grow gr) (rd_newT hq (rs.cut lo hi))
        | _ => exact h.elim

/-! ### a, b = x, y -/
def parS (i k : Nat) (f : EM (List D)) : SM := fun ρ ω => (f ρ ω).stm fun ds ρ ω => match ds with
  | [x, y] => .nx ((ρ.set i (.val x)).set k (.val y)) ω
  | _ => .bad
theorem s_par {i k : Nat} {f : EM (List D)} (h : PS X st (tPar i k (RdA B f))) : PS X st (RdS B (parS i k f)) := PS.imp h fun D σ H ⟨Z, ρ, ω, j, q⟩ => by
  refine ⟨Z, ρ, ω, j, ?_⟩
  unfold parS at q
  cases ea : f ρ ω with
  | bad => simp only [ea, Out.stm] at q; exact q
  | exc c ω' => simp only [ea, Out.stm] at q; exact q
  | ok ds ρ1 ω1 =>
    simp only [ea, Out.stm] at q
    intro Z1 vs H1 e1 z1 j1 r1
    split at q
    · cases r1 with
      | cons ra r1 =>
        cases r1 with
        | cons rb r1 =>
          cases r1
          exact ⟨_, _, rfl, q Z1 _ H1 (.of j.good z1 e1) ((j1.setVal ra).setVal rb)⟩
    · exact q.elim

/-! ### methods -/
theorem sApp {i : Nat} {f : EM D} (ho : PE X o (tVar i)) (ha : PE X a (RdE B f)) (hbase : attributeBase o "append" X.env (eval o X.env) = eval o X.env := by rfl)
    (hfew : ((backTo cpos (starEach [a] X.env)).all (fun x => !x.1) && (backToKw cpos (keywordEach [] X.env)).all (fun x => x.1.isSome)
      && decide (([a] : List Expr).length + ([] : List Keyword).length + (if ([] : List Keyword).isEmpty then 0 else 1) < 30)) = true := by rfl)
    (hline : (apos.endLine == cpos.line) = true := by rfl) (hs : starEach [a] X.env = (false, eval a X.env) :: starEach [] X.env := by rfl) (hplain : (backTo cpos (starEach [] X.env)).any (·.1) = false := by rfl)
    (hsw : swapsWith (.Call (.Attribute o "append" apos) [a] [] cpos) none pos.line X.env = pure false := by rfl) :
    PS X (.Expr (.Call (.Attribute o "append" apos) [a] [] cpos) pos) (RdS B (appS i f)) :=
  s_app (ps_expr (pe_bm PySem.F.plainAttrs_list PySem.F.slot_list_append PySem.F.type_list_append mt_append ho (pa_cons ha pa_nil hs) hbase hfew hline hs hplain) hsw)
theorem sPopDrop {i : Nat} (ho : PE X o (tVar i)) (hbase : attributeBase o "pop" X.env (eval o X.env) = eval o X.env := by rfl) (hline : (apos.endLine == cpos.line) = true := by rfl)
    (hsw : swapsWith (.Call (.Attribute o "pop" apos) [] [] cpos) none pos.line X.env = pure false := by rfl) :
    PS X (.Expr (.Call (.Attribute o "pop" apos) [] [] cpos) pos) (RdS B (popDropS i)) :=
  s_popDrop (ps_expr (pe_bm0 PySem.F.plainAttrs_list PySem.F.slot_list_pop PySem.F.type_list_pop mt_pop ho hbase hline) hsw)
end
end L2.Fl

namespace L2.Fl
open PySem PySem.Spec PyProof.Rows

/-! ### a dict comprehension of two clauses, no tests -/
section
variable {prog : Program} {w : World} {A : Around} {R : Result → Shared → Prop} {s : Shared} {kx vx ta ia tb ib : Expr} {sc : Scope} {pos : Pos} {it : Value} {acc : Addr} {env : Env}
abbrev DC2 (kx vx ta ia tb ib : Expr) (sc : Scope) (pos : Pos) : Expr := .DictComp kx vx [⟨ta, ia, [], 0⟩, ⟨tb, ib, [], 0⟩] sc pos
theorem dc2_loop0 (hs : ∀ x, foldedSetIterable ib env x = pure x) (J : Nat → Shared → Prop)
    (turn : ∀ n s, J n s → wpAny (model prog w) A (pyNext it) (fun r s1 => match r with
      | none => R (.ok .next) s1
      | some v => wpAny (model prog w) A (letOwnedTupleGo ta it v) (fun _ s2 => wpAny (model prog w) A (assign ta env v) (fun _ s3 => wpAny (model prog w) A (eval ib env) (fun x s4 => wpAny (model prog w) A (pyIter x) (fun y s5 =>
          codeAny (model prog w) A (.compStart (DC2 kx vx ta ia tb ib sc pos) 1 y (.ref acc) env) (fun r z => match r with
            | .ok _ => ∃ m, m < n ∧ J m z
            | .error _ => False) s5) (fun _ _ => False) s4) (fun _ _ => False) s3) (fun _ _ => False) s2) (fun _ _ => False) s1) (fun _ _ => False) s)
    (n : Nat) (h : J n s) : codeAny (model prog w) A (.compLoop (DC2 kx vx ta ia tb ib sc pos) 0 it (.ref acc) env) R s := by
  refine codeAny_loop rfl J (fun n z hz => ?_) n h
  show wpAny _ A ((compTurn (DC2 kx vx ta ia tb ib sc pos) 0 it (.ref acc) env).onRaise (fun x => do noteFrame x env; theTreesLotGoes x)) _ _ z
  have eq : compTurn (DC2 kx vx ta ia tb ib sc pos) 0 it (.ref acc) env = (do
      standAt ia.pos
      match ← pyNext it with
      | none => pure (.done .next)
      | some v =>
        letOwnedTupleGo ta it v
        assign ta env v
        let mut ok := true
        for q in ([] : List Expr) do
          if ok then ok ← isTrue q env (eval q env)
        if ok then
          let x ← eval ib env
          standAt ib.pos
          let x ← foldedSetIterable ib env x
          let _ ← runOwn (.compStart (DC2 kx vx ta ia tb ib sc pos) 1 (← holding [x] (pyIter x)) (.ref acc) env) env
        again (.compLoop (DC2 kx vx ta ia tb ib sc pos) 0 it (.ref acc) env)) := by rfl
  refine wpAny_noted ?_
  rw [eq]
  refine wpAny_bind (wpAny_standAt (wpAny_bind (wpAny_mono (turn n z hz) (fun r s1 q1 => ?_) fun _ _ q => q.elim)))
  match r, q1 with
  | none, q1 => exact wpAny_pure q1
  | some v, q1 =>
    refine wpAny_bind (wpAny_mono q1 (fun _ s2 q2 => wpAny_bind (wpAny_mono q2 (fun _ s3 q3 => ?_) fun _ _ q => q.elim)) fun _ _ q => q.elim)
    refine wpAny_bind (wpAny_tests_nil (wpAny_bind (wpAny_mono q3 (fun x s4 q4 => ?_) fun _ _ q => q.elim)))
    refine wpAny_bind (wpAny_standAt (wpAny_bind (wpAny_of_eq (hs x) (wpAny_bind (wpAny_holding (wpAny_mono q4 (fun y s5 q5 => ?_) fun _ _ q => q.elim))))))
    refine wpAny_bind (wpAny_runOwn ?_)
    rw [Around.mark_none]
    refine codeAny_mono q5 fun r z q6 => ?_
    match r, q6 with
    | .ok f, q6 => first | exact wpAny_pure ⟨rfl, q6⟩ | exact wpAny_bind (wpAny_pure (wpAny_pure ⟨rfl, q6⟩))
    | .error e, q6 => exact q6.elim
theorem dc2_loop1 (J : Nat → Shared → Prop)
    (turn : ∀ n s, J n s → wpAny (model prog w) A (pyNext it) (fun r s1 => match r with
      | none => R (.ok .next) s1
      | some v => wpAny (model prog w) A (letOwnedTupleGo tb it v) (fun _ s2 => wpAny (model prog w) A (assign tb env v) (fun _ s3 => wpAny (model prog w) A (eval kx env) (fun x s4 => wpAny (model prog w) A (eval vx env) (fun y s5 =>
          wpAny (model prog w) A (dictSet acc x y) (fun _ z => ∃ m, m < n ∧ J m z) (fun _ _ => False) s5) (fun _ _ => False) s4) (fun _ _ => False) s3) (fun _ _ => False) s2) (fun _ _ => False) s1) (fun _ _ => False) s)
    (n : Nat) (h : J n s) : codeAny (model prog w) A (.compLoop (DC2 kx vx ta ia tb ib sc pos) 1 it (.ref acc) env) R s := by
  refine codeAny_loop rfl J (fun n z hz => ?_) n h
  show wpAny _ A ((compTurn (DC2 kx vx ta ia tb ib sc pos) 1 it (.ref acc) env).onRaise (fun x => do noteFrame x env; theTreesLotGoes x)) _ _ z
  have eq : compTurn (DC2 kx vx ta ia tb ib sc pos) 1 it (.ref acc) env = (do
      standAt ib.pos
      match ← pyNext it with
      | none => pure (.done .next)
      | some v =>
        letOwnedTupleGo tb it v
        assign tb env v
        let mut ok := true
        for q in ([] : List Expr) do
          if ok then ok ← isTrue q env (eval q env)
        if ok then
          (do
            let y1 ← eval kx env
            let y2 ← holding [y1] (eval vx env)
            standAt { kx.pos with endLine := vx.pos.endLine, endCol := vx.pos.endCol }
            holding [y1, y2] (dictSet acc y1 y2))
        again (.compLoop (DC2 kx vx ta ia tb ib sc pos) 1 it (.ref acc) env)) := by rfl
  refine wpAny_noted ?_
  rw [eq]
  refine wpAny_bind (wpAny_standAt (wpAny_bind (wpAny_mono (turn n z hz) (fun r s1 q1 => ?_) fun _ _ q => q.elim)))
  match r, q1 with
  | none, q1 => exact wpAny_pure q1
  | some v, q1 =>
    refine wpAny_bind (wpAny_mono q1 (fun _ s2 q2 => wpAny_bind (wpAny_mono q2 (fun _ s3 q3 => ?_) fun _ _ q => q.elim)) fun _ _ q => q.elim)
    refine wpAny_bind (wpAny_tests_nil (wpAny_bind (wpAny_bind (wpAny_mono q3 (fun x s4 q4 => ?_) fun _ _ q => q.elim))))
    exact wpAny_bind (wpAny_holding (wpAny_mono q4 (fun y s5 q5 => wpAny_bind (wpAny_standAt (wpAny_holding (wpAny_mono q5 (fun _ z q6 => wpAny_pure ⟨rfl, q6⟩) fun _ _ q => q.elim)))) fun _ _ q => q.elim))
theorem dc2_start1 (h0 : codeAny (model prog w) A (.compLoop (DC2 kx vx ta ia tb ib sc pos) 1 it (.ref acc) env) R s)
    (h : wpAny (model prog w) A (pyIter it) (fun y z => codeAny (model prog w) A (.compLoop (DC2 kx vx ta ia tb ib sc pos) 1 y (.ref acc) env) R z) (fun _ _ => False) s) :
    codeAny (model prog w) A (.compStart (DC2 kx vx ta ia tb ib sc pos) 1 it (.ref acc) env) R s := by
  refine codeAny_of_tree ?_
  show wpAny _ _ ((compStart (DC2 kx vx ta ia tb ib sc pos) 1 it (.ref acc) env).onRaise (fun x => do noteFrame x env; standAt theWindowsPlace)) _ _ s
  refine wpAny_notedAt ?_
  unfold compStart
  show wpAny _ _ (ask >>= _) _ _ s
  refine wpAny_bind (wpAny_askSetting (wpAny_ite ?_))
  split
  · first
      | exact wpAny_pure ⟨rfl, h0⟩
      | exact wpAny_bind (wpAny_pure (wpAny_pure ⟨rfl, h0⟩))
  · refine wpAny_bind (wpAny_rule ?_)
    show wpAny _ _ (standAt ib.pos >>= _) _ _ s
    exact wpAny_bind (wpAny_standAt (wpAny_bind (wpAny_mono h (fun y z q => wpAny_pure ⟨rfl, q⟩) fun _ _ x => x.elim)))
end
section
variable {X : Cx}
/-- {k: v for ta in ia for tb in ib} -/
def tDc2 (wi : TI) (g : TG) (wi1 : TI) (g1 : TG) (tk tv : TE) (vs vs1 : List Nat) : TE := fun σ H Q => wi σ H fun It H1 => ∀ D, H1 D = none → ∃ W : Nat → Nat → Hp → Prop, (∃ m, W 0 m (upd H1 D (.dK []))) ∧ ∀ i m H, W i m H →
  (It.stop i H ∧ Q (.ref D) H) ∨ (It.go i H ∧ ∃ Nx : Hp → Prop, (∀ H', Nx H' → ∃ m', m' < m ∧ W (i + 1) m' H') ∧ ∀ x H', It.yld i H x H' → g x (wipe σ vs) H' fun σ2 H2 => wipe σ2 vs = wipe σ vs ∧
    wi1 σ2 H2 fun It1 H4 => ∃ W1 : Nat → Nat → Hp → Prop, (∃ m, W1 0 m H4) ∧ ∀ j k H, W1 j k H →
      (It1.stop j H ∧ Nx H) ∨ (It1.go j H ∧ ∃ Nx1 : Hp → Prop, (∀ H', Nx1 H' → ∃ k', k' < k ∧ W1 (j + 1) k' H') ∧ ∀ x H', It1.yld j H x H' → g1 x (wipe σ2 vs1) H' fun σ3 H5 => wipe σ3 vs1 = wipe σ2 vs1 ∧
        tk σ3 H5 fun y H7 => tv σ3 H7 fun z H8 => ∃ kvs k, y = kV k ∧ H8 D = some (.dK kvs) ∧ kvs.length < sizeLine ∧ Nx1 (upd H8 D (.dK (putK kvs k z)))))
theorem dc2_core {pins : List (Addr × Obj)} {s : Shared} {σ : L2.St} {H : Hp} {Q : VK} {pos' : Pos} {use : Option (Value → Sem Unit)} {Qf : Value → Shared → Prop} {kx vx ta ia tb ib : Expr} {sc : Scope} {own : List (Str × Nat)} {vs1 : List Nat} {pos : Pos} {wi wi1 : TI} {g g1 : TG} {tk tv : TE} (hc : X.calm = true) (hN : X.N.Nodup) (I : Inv X pins σ H s) (hi : PI X ta ia wi) (ok : BlkOk X.N X.env.scope sc own) (hv : ∀ i ∈ vs1, i ∈ own.map (·.2))
    (hg : ∀ (s : Shared) (H : Hp) (C : Addr) (cl : List (Str × Addr)) (fp : List Addr), PG (X.blk s H sc (compEnvC sc cl C X.env) fp) ta g)
    (hi1 : ∀ (s : Shared) (H : Hp) (C : Addr) (cl : List (Str × Addr)) (fp : List Addr), PI (X.blk s H sc (compEnvC sc cl C X.env) fp) tb ib wi1)
    (hg1 : ∀ (s : Shared) (H : Hp) (C : Addr) (cl : List (Str × Addr)) (fp : List Addr), PG (X.blk s H sc (compEnvC sc cl C X.env) fp) tb g1)
    (hk : ∀ (s : Shared) (H : Hp) (C : Addr) (cl : List (Str × Addr)) (fp : List Addr), PE (X.blk s H sc (compEnvC sc cl C X.env) fp) kx tk)
    (he : ∀ (s : Shared) (H : Hp) (C : Addr) (cl : List (Str × Addr)) (fp : List Addr), PE (X.blk s H sc (compEnvC sc cl C X.env) fp) vx tv)
    (hs : ∀ x, foldedSetIterable ia X.env x = pure x) (hs1 : ∀ env x, foldedSetIterable ib env x = pure x) (h : tDc2 wi g wi1 g1 tk tv (own.map (·.2)) vs1 σ H Q)
    (hRR : ∀ D C z m H', Inv X pins σ H' z → Q (.ref D) H' → z.heap.Ns C m → FpOk X pins H' C → compPost (model X.prog X.w) X.A X.xe use Qf (.ref D) C (.ok .next) z) :
    wpAny (model X.prog X.w) X.A (comprehension (DC2 kx vx ta ia tb ib sc pos) sc X.env pos' newDict false (eval ia X.env) use) Qf X.xe s := by
  have hfree : ∀ y ∈ sc.names, y.2 = .free → ∃ c, X.env.cells.lookup y.1 = some c := fun y hy e => (ok.free y hy e).elim (fun k => I.ok.has _ (.inl k)) fun k => I.ok.has _ (.inr k)
  refine wpAny_comprehension_free (use := use) rfl hs (closure_ok hfree) ok.kind (fun y hy e => by rw [ok.uniq y hy, e]) (thn (hi.run pins s σ H _ I h) fun v1 s1 w1 => thn w1 fun v2 s2 w2 => ?_)
  obtain ⟨it, fp, tn, It0, H2, rfl, I2, T, st2, f2, q⟩ := w2
  refine wpAny_newObj_type (newEnv_comp ?_)
  generalize hD : s2.heap.objs.size = D
  obtain ⟨W, ⟨m0, w0⟩, turn⟩ := q D (I2.hok.fresh (Nat.le_of_eq hD))
  have I3 : Inv X pins σ (upd H2 D (.dK [])) { s2 with heap := s2.heap.push { cls := .type "dict", data := .dict #[] } } := by
    refine I2.laid (t' := s2.toks) (fun b o e => Heap.get?_push_of_some _ e) (Nat.le_of_eq hD) ?_
    rw [← hD]; exact dk_empty s2.heap I2.big
  generalize hs3 : ({ s2 with heap := s2.heap.push { cls := .type "dict", data := .dict #[] } } : Shared) = s3 at I3
  have h3 : s3.heap = s2.heap.push { cls := .type "dict", data := .dict #[] } := by rw [← hs3]
  have f3 : ∀ b ∈ fp, FpOk X pins (upd H2 D (.dK [])) b ∧ b < s3.heap.objs.size := fun b hb => by
    obtain ⟨o, e, _⟩ := T.obj _ _ st2 b hb
    have hlt := Heap.lt_size e
    exact ⟨⟨by rw [upd_ne (by rw [← hD]; exact Nat.ne_of_lt hlt)]; exact (f2 b hb).1, (f2 b hb).2⟩, by rw [h3, Heap.size_push]; exact Nat.lt_succ_of_lt hlt⟩
  have st3 : tn 0 s3.heap := T.keep _ _ _ st2 fun b _ o e => by rw [h3]; exact Heap.get?_push_of_some _ e
  have I4 := block_start I3 ok hN f3
  let cells := cellsFrom (s3.heap.objs.size + 1) sc.names (cloFrom X.env.cells sc.names [])
  have pg := hg s3 (upd H2 D (.dK [])) s3.heap.objs.size cells fp
  have pk := hk s3 (upd H2 D (.dK [])) s3.heap.objs.size cells fp
  have pe := he s3 (upd H2 D (.dK [])) s3.heap.objs.size cells fp
  have pi1 := hi1 s3 (upd H2 D (.dK [])) s3.heap.objs.size cells fp
  have pg1 := hg1 s3 (upd H2 D (.dK [])) s3.heap.objs.size cells fp
  show codeAny _ _ (.compStart (DC2 kx vx ta ia tb ib sc pos) 0 (.ref it) (.ref D) (compEnvC sc cells s3.heap.objs.size X.env)) (compPost (model X.prog X.w) X.A X.xe use Qf (.ref D) s3.heap.objs.size) { s3 with heap := pushCells (s3.heap.push { cls := .type "dict", data := .dict #[] }) sc.names }
  have nfp : ∀ b ∈ fp, (upd H2 D (.dK [])) b = none := fun b hb => (f3 b hb).1.1
  change Inv (X.blk s3 (upd H2 D (.dK [])) sc (compEnvC sc cells s3.heap.objs.size X.env) fp) [] _ _ _ at I4
  generalize hce : compEnvC sc cells s3.heap.objs.size X.env = ce at I4 pg pk pe pi1 pg1 ⊢
  have cL : ce.locals = s3.heap.objs.size := by subst hce; rfl
  generalize hH3 : upd H2 D (.dK []) = H3 at I3 I4 pg pk pe pi1 pg1 w0 nfp f3
  generalize hs4 : ({ s3 with heap := pushCells (s3.heap.push { cls := .type "dict", data := .dict #[] }) sc.names } : Shared) = s4 at I4 ⊢
  have st4 : tn 0 s4.heap := T.keep _ _ _ st3 fun b _ o e => by rw [← hs4]; exact pushCells_keeps _ _ _ _ (Heap.get?_push_of_some _ e)
  have stat : ∀ {σ' : L2.St} {H' : Hp} {s' : Shared}, Inv (X.blk s3 H3 sc ce fp) [] σ' H' s' → (∀ b ∈ fp, H' b = none) → ∀ b ∈ fp, FpOk (X.blk s3 H3 sc ce fp) [] H' b := fun {σ' H' s'} I' hn b hb =>
    ⟨hn b hb, (I'.ok.exf b hb).1, I'.ok.exfs b hb, .inl hb, fun x c e => (I'.ok.exf b hb).2 x c e, fun p hp => nomatch (show p ∈ ([] : List (Addr × Obj)) from hp)⟩
  generalize hσw : wipe σ (own.map (·.2)) = σw at I4 turn
  have lσ : σw.length = σ.length := by rw [← hσw]; exact wipe_length _ _
  have loop : codeAny (model X.prog X.w) X.A (.compLoop (DC2 kx vx ta ia tb ib sc pos) 0 (.ref it) (.ref D) ce) (compPost (model X.prog X.w) X.A X.xe use Qf (.ref D) s3.heap.objs.size) s4 := by
    refine dc2_loop0 (hs1 ce) (fun n z => ∃ i H', Inv (X.blk s3 H3 sc ce fp) [] σw H' z ∧ tn i z.heap ∧ (∀ b ∈ fp, H' b = none) ∧ W i n H') ?_ m0 ⟨0, H3, I4, st4, nfp, w0⟩
    rintro n s5 ⟨i, H5, I5, st5, n5, w5⟩
    rcases turn i n H5 w5 with ⟨stop, qq⟩ | ⟨go, Nx, hNx, step⟩
    · refine thnF (T.done (X.blk s3 H3 sc ce fp) rfl rfl rfl hc i [] s5 _ H5 (fun _ _ => False) I5 (stat I5 n5) st5 stop) fun r s6 ⟨hr, I6⟩ => ?_
      subst hr
      have I7 : Inv X pins σ H5 s6 := I3.call' (ch := fp) I6.os I6.base I6.hok I6.bare fun b hb => ⟨(f3 b hb).1.2.2.2.1, (f3 b hb).1.2.1, (f3 b hb).1.2.2.2.2.1, (f3 b hb).1.2.2.2.2.2⟩
      have nC : H5 s3.heap.objs.size = none := by
        have z : H5 ce.locals = none := I6.free
        rw [cL] at z; exact z
      obtain ⟨m, hn, _⟩ := I6.loc
      have hn : s6.heap.Ns ce.locals m := hn
      rw [cL] at hn
      exact hRR D s3.heap.objs.size s6 m H5 I7 qq hn (I3.fpOk (Nat.le_refl _) nC)
    · refine thnF (T.item (X.blk s3 H3 sc ce fp) rfl rfl rfl hc i [] s5 _ H5 (fun _ _ => False) I5 (stat I5 n5) st5 go) fun r s6 ⟨u, hr, h6⟩ => ?_
      subst hr
      refine thnF h6 fun _ s7 ⟨x, H7, I7, r7, y7, st7, n7⟩ => ?_
      refine thnF (pg.run _ s7 _ H7 x u _ (I7.pinned (stat I7 n7) (T.obj _ _ st7)) r7 (step x H7 y7)) fun _ s8 ⟨σ8, H8, I8, hw8, q8⟩ => ?_
      refine thnF (pi1.run _ s8 σ8 H8 _ I8 q8) fun xv s10 hx => thnF hx fun itv s11 h11 => ?_
      obtain ⟨it1, fp1, tn1, J1, H11, rfl, I11, T1, st11, f11, W1, ⟨m1, w1⟩, turn1⟩ := h11
      have stat1 : ∀ {H' : Hp}, (∀ b ∈ fp1, H' b = none) → ∀ b ∈ fp1, FpOk (X.blk s3 H3 sc ce fp) ([] ++ pinsAt fp s7.heap) H' b := fun hn b hb => ⟨hn b hb, (f11 b hb).2⟩
      have l8 : σw.length = σ8.length := by rw [← hw8, wipe_length]
      have k8 : ∀ (j : Nat) v, σw[j]? = some (some v) → (wipe σ8 vs1)[j]? = some (some v) := fun j v e => by
        rw [← hw8] at e
        obtain ⟨e1, e2⟩ := wipe_some e
        rw [wipe_out fun z => e2 (hv j z)]; exact e1
      have fin : ∀ {z : Shared} {H' : Hp}, Inv (X.blk s3 H3 sc ce fp) ([] ++ pinsAt fp s7.heap) (wipe σ8 vs1) H' z → Nx H' → ∃ m, m < n ∧ ∃ i H', Inv (X.blk s3 H3 sc ce fp) [] σw H' z ∧ tn i z.heap ∧ (∀ b ∈ fp, H' b = none) ∧ W i m H' := fun {z H'} I' nx => by
        obtain ⟨m', hm, w'⟩ := hNx H' nx
        have pin' : ∀ b ∈ fp, ∀ o, s7.heap.get? b = some o → z.heap.get? b = some o ∧ H' b = none := fun b hb o e => by
          have y := I'.pin (b, o) (List.mem_append_right _ (List.mem_append_right _ (mem_pinsAt hb e)))
          exact ⟨y.1, y.2.1⟩
        refine ⟨m', hm, i + 1, H', (I'.unpinned (pins := [])).weak (l8.trans (wipe_length σ8 vs1).symm) k8, T.keep _ _ _ st7 fun b hb o e => (pin' b hb o e).1, fun b hb => ?_, w'⟩
        obtain ⟨o, e, _⟩ := T.obj _ _ st7 b hb
        exact (pin' b hb o e).2
      have loop1 : codeAny (model X.prog X.w) X.A (.compLoop (DC2 kx vx ta ia tb ib sc pos) 1 (.ref it1) (.ref D) ce) (fun r z => match r with
          | .ok _ => ∃ m, m < n ∧ ∃ i H', Inv (X.blk s3 H3 sc ce fp) [] σw H' z ∧ tn i z.heap ∧ (∀ b ∈ fp, H' b = none) ∧ W i m H'
          | .error _ => False) s11 := by
        refine dc2_loop1 (fun k z => ∃ j H', Inv (X.blk s3 H3 sc ce fp) ([] ++ pinsAt fp s7.heap) (wipe σ8 vs1) H' z ∧ tn1 j z.heap ∧ (∀ b ∈ fp1, H' b = none) ∧ W1 j k H') ?_ m1 ⟨0, H11, I11.weak (wipe_length _ _) (fun j v e => (wipe_some e).1), st11, fun b hb => (f11 b hb).1, w1⟩
        rintro k s12 ⟨j, H12, I12, st12, n12, w12⟩
        rcases turn1 j k H12 w12 with ⟨stop1, nx1⟩ | ⟨go1, Nx1, hNx1, step1⟩
        · refine thnF (T1.done (X.blk s3 H3 sc ce fp) rfl rfl rfl hc j _ s12 (wipe σ8 vs1) H12 (fun _ _ => False) I12 (stat1 n12) st12 stop1) fun r s13 ⟨hr, I13⟩ => ?_
          subst hr
          exact fin I13 nx1
        · refine thnF (T1.item (X.blk s3 H3 sc ce fp) rfl rfl rfl hc j _ s12 (wipe σ8 vs1) H12 (fun _ _ => False) I12 (stat1 n12) st12 go1) fun r s13 ⟨u1, hr, h13⟩ => ?_
          subst hr
          refine thnF h13 fun _ s14 ⟨x1, H14, I14, r14, y14, st14, n14⟩ => ?_
          refine thnF (pg1.run _ s14 (wipe σ8 vs1) H14 x1 u1 _ (I14.pinned (stat1 n14) (T1.obj _ _ st14)) r14 (step1 x1 H14 y14)) fun _ s15 ⟨σ15, H15, I15, hw15, q15⟩ => ?_
          refine thnF (pk.run _ s15 σ15 H15 _ I15 q15) fun zk s16 ⟨yk, H16, I16, r16, q16⟩ => thnF (pe.run _ s16 σ15 H16 _ I16 q16) fun ze s17 ⟨yv, H17, I17, r17, kvs, kk, ek, hD17, hz17, nx⟩ => ?_
          subst ek
          refine d_dictSet (X := X.blk s3 H3 sc ce fp) I17 hD17 hz17 r16 r17 fun s18 I18 => ?_
          obtain ⟨m', hm, w'⟩ := hNx1 _ nx
          have pin' : ∀ b ∈ fp1, ∀ o, s14.heap.get? b = some o → s18.heap.get? b = some o ∧ (upd H17 D (.dK (putK kvs kk yv))) b = none := fun b hb o e => by
            have y := I18.pin (b, o) (List.mem_append_right _ (List.mem_append_right _ (mem_pinsAt hb e)))
            exact ⟨y.1, y.2.1⟩
          refine ⟨m', hm, j + 1, _, I18.unpinned.weak (by rw [← hw15, wipe_length]) (fun j v e => by rw [← hw15] at e; exact (wipe_some e).1), T1.keep _ _ _ st14 fun b hb o e => (pin' b hb o e).1, fun b hb => ?_, w'⟩
          obtain ⟨o, e, _⟩ := T1.obj _ _ st14 b hb
          exact (pin' b hb o e).2
      exact dc2_start1 loop1 (T1.self X.A 0 _ _ _ st11 loop1)
  exact codeAny_compStart_dict loop (T.self X.A 0 _ _ _ st4 loop)
theorem pe_dc2 {kx vx ta ia tb ib : Expr} {sc : Scope} {own : List (Str × Nat)} {vs1 : List Nat} {pos : Pos} {wi wi1 : TI} {g g1 : TG} {tk tv : TE} (hc : X.calm = true) (hN : X.N.Nodup) (hi : PI X ta ia wi) (ok : BlkOk X.N X.env.scope sc own) (hv : ∀ i ∈ vs1, i ∈ own.map (·.2))
    (hg : ∀ (s : Shared) (H : Hp) (C : Addr) (cl : List (Str × Addr)) (fp : List Addr), PG (X.blk s H sc (compEnvC sc cl C X.env) fp) ta g)
    (hi1 : ∀ (s : Shared) (H : Hp) (C : Addr) (cl : List (Str × Addr)) (fp : List Addr), PI (X.blk s H sc (compEnvC sc cl C X.env) fp) tb ib wi1)
    (hg1 : ∀ (s : Shared) (H : Hp) (C : Addr) (cl : List (Str × Addr)) (fp : List Addr), PG (X.blk s H sc (compEnvC sc cl C X.env) fp) tb g1)
    (hk : ∀ (s : Shared) (H : Hp) (C : Addr) (cl : List (Str × Addr)) (fp : List Addr), PE (X.blk s H sc (compEnvC sc cl C X.env) fp) kx tk)
    (he : ∀ (s : Shared) (H : Hp) (C : Addr) (cl : List (Str × Addr)) (fp : List Addr), PE (X.blk s H sc (compEnvC sc cl C X.env) fp) vx tv)
    (hs : ∀ x, foldedSetIterable ia X.env x = pure x := by intro _; rfl) (hs1 : ∀ env x, foldedSetIterable ib env x = pure x := by intro _ _; rfl) :
    PE X (DC2 kx vx ta ia tb ib sc pos) (tDc2 wi g wi1 g1 tk tv (own.map (·.2)) vs1) := ⟨fun pins s σ H Q I h => by
  rw [arm_eval_DictComp]
  refine dc2_core hc hN I hi ok hv hg hi1 hg1 hk he hs hs1 h fun D C z m H' I' q hn f => ⟨m, hn, fun h'' sb => ?_⟩
  obtain ⟨f0, f1, fa, fb, fc, fd⟩ := f
  exact ⟨.ref D, H', I'.turned (t' := z.toks) (fun b o hb e => (sb.2 b hb).trans e) f0 f1 fb fc fd, rfl, q⟩⟩
theorem ps_setDc2 {i : Nat} {y : Str} {py spos : Pos} {kx vx ta ia tb ib : Expr} {sc : Scope} {own : List (Str × Nat)} {vs1 : List Nat} {pos : Pos} {wi wi1 : TI} {g g1 : TG} {tk tv : TE} (hc : X.calm = true) (hN : X.N.Nodup) (hy : X.N[i]? = some y) (hyl : X.env.scope.names.lookup y = some .local)
    (hsw : swapsWith (DC2 kx vx ta ia tb ib sc pos) (some (.Name y py)) spos.line X.env = pure true) (hi : PI X ta ia wi) (ok : BlkOk X.N X.env.scope sc own) (hv : ∀ i ∈ vs1, i ∈ own.map (·.2))
    (hg : ∀ (s : Shared) (H : Hp) (C : Addr) (cl : List (Str × Addr)) (fp : List Addr), PG (X.blk s H sc (compEnvC sc cl C X.env) fp) ta g)
    (hi1 : ∀ (s : Shared) (H : Hp) (C : Addr) (cl : List (Str × Addr)) (fp : List Addr), PI (X.blk s H sc (compEnvC sc cl C X.env) fp) tb ib wi1)
    (hg1 : ∀ (s : Shared) (H : Hp) (C : Addr) (cl : List (Str × Addr)) (fp : List Addr), PG (X.blk s H sc (compEnvC sc cl C X.env) fp) tb g1)
    (hk : ∀ (s : Shared) (H : Hp) (C : Addr) (cl : List (Str × Addr)) (fp : List Addr), PE (X.blk s H sc (compEnvC sc cl C X.env) fp) kx tk)
    (he : ∀ (s : Shared) (H : Hp) (C : Addr) (cl : List (Str × Addr)) (fp : List Addr), PE (X.blk s H sc (compEnvC sc cl C X.env) fp) vx tv)
    (hs : ∀ x, foldedSetIterable ia X.env x = pure x := by intro _; rfl) (hs1 : ∀ env x, foldedSetIterable ib env x = pure x := by intro _ _; rfl) :
    PS X (.Assign [.Name y py] (DC2 kx vx ta ia tb ib sc pos) spos) (tAsg (tDc2 wi g wi1 g1 tk tv (own.map (·.2)) vs1) (gName i)) := ⟨fun pins s σ H D I h => by
  rw [exec_Assign_Name_used _ _ _ _ hsw]
  refine wpAny_bind (wpAny_standAt (wpAny_bind ?_))
  show wpAny _ X.A (do let _ ← comprehension (DC2 kx vx ta ia tb ib sc pos) sc X.env (firstIterPos [⟨ta, ia, [], 0⟩, ⟨tb, ib, [], 0⟩] pos) newDict false (eval ia X.env) (some (assign (.Name y py) X.env))) _ _ s
  have h : tDc2 wi g wi1 g1 tk tv (own.map (·.2)) vs1 σ H (fun x H1 => gName i x σ H1 D.nx) := h
  refine wpAny_bind (thn (dc2_core (Qf := fun _ z => SP X pins D .next z) hc hN I hi ok hv hg hi1 hg1 hk he hs hs1 h fun L C z m H' I' q hn f => ?_) fun _ z hq => wpAny_pure (wpAny_pure hq))
  show wpAny _ _ (assign (.Name y py) X.env (.ref L)) _ _ _
  refine wpAny_assign_Name (store_ok2 (v := V.ref L) I' hN hy (.inl hyl) rfl (fun s2 I2 ⟨a, sb, ha⟩ => ?_) (.inr hyl))
  obtain ⟨f0, f1, fa, fb, fc, fd⟩ := f
  have haC : C ≠ a := ha.elim (fun z => by rw [z]; exact f1) fun z e => fc y a z e.symm
  exact ⟨m, hn.sameBut sb haC, fun h3 sb3 => ⟨_, H', I2.turned (t' := s2.toks) (fun b o hb e => (sb3.2 b hb).trans e) f0 f1 fb fc fd, q⟩⟩⟩
end
end L2.Fl

namespace L2.Fl
open PySem PySem.Spec PyProof.Rows

/-! ### a loop that gathers at Dn, any kind -/
/-- as Ext, but Dn may change -/
structure ExtD (g : Gd) (Dn : Addr) (H H' : Hp) : Prop where
  keep : ∀ p o, H p = some o → g.pd ≠ some p → p ≠ Dn → Fix o → H' p = some o
  dom : ∀ p, H' p = none → p ≠ Dn → H p = none
theorem ExtD.refl {g : Gd} {Dn : Addr} {H : Hp} : ExtD g Dn H H := ⟨fun _ _ h _ _ _ => h, fun _ h _ => h⟩
theorem ExtD.trans {g : Gd} {Dn : Addr} {H H1 H2 : Hp} (a : ExtD g Dn H H1) (b : ExtD g Dn H1 H2) : ExtD g Dn H H2 := ⟨fun p o h n m f => b.keep p o (a.keep p o h n m f) n m f, fun p h m => a.dom p (b.dom p h m) m⟩
theorem Ext.toD {g : Gd} {Dn : Addr} {H H' : Hp} (a : Ext g H H') : ExtD g Dn H H' := ⟨fun p o h n _ f => a.keep p o h n f, fun p h _ => a.dom p h⟩
theorem ExtD.upd {g : Gd} {Dn : Addr} {H : Hp} {o : HO} : ExtD g Dn H (upd H Dn o) := ⟨fun p o' h _ m _ => by rw [upd_ne m]; exact h, fun p h m => by rw [upd_ne m] at h; exact h⟩
theorem ExtD.after {g : Gd} {Dn : Addr} {H0 H H' : Hp} (a : Ext g H0 H) (b : ExtD g Dn H H') (h0 : H0 Dn = none) : Ext g H0 H' := ⟨fun p o h n f => by
  have m : p ≠ Dn := ne_of_none h h0
  exact b.keep p o (a.keep p o h n f) n m f, fun p h => by
  by_cases m : p = Dn
  · rw [m]; exact h0
  · exact a.dom p (b.dom p h m)⟩
abbrev AccR (α : Type) := (Addr → Prop) → Hp → α → Prop
def loopA {α : Type} (vs : List Nat) (step : D → α → EM α) : List D → α → EM α
  | [], a => fun ρ ω => .ok a ρ ω
  | d :: ds, a => fun ρ ω => (step d a ρ ω).thenB fun a' ρ' ω' => loopA vs step ds a' (wipeF vs ρ') ω'
/-- what behind a turn is to hold -/
def SPost {α : Type} (B : Bc) (Dn : Addr) (AR : AccR α) (vs : List Nat) (σw : L2.St) (Z : Addr → Prop) (H : Hp) (o : Out α) (Nx : Hp → Prop) : Prop := match o with
  | .ok a ρ ω => ∀ (Z' : Addr → Prop) (H' : Hp), J B Z' (wipeF vs ρ) σw H' ω → AR Z' H' a → Kp Z H Z' H' → ExtD B.g Dn H H' → Nx H'
  | _ => False
def LPost {α : Type} (B : Bc) (Dn : Addr) (AR : AccR α) (σw : L2.St) (Z : Addr → Prop) (H : Hp) (o : Out α) (Qd : Hp → Prop) : Prop := match o with
  | .ok a ρ ω => ∀ (Z' : Addr → Prop) (H' : Hp), J B Z' ρ σw H' ω → AR Z' H' a → Kp Z H Z' H' → ExtD B.g Dn H H' → Qd H'
  | _ => False
theorem LPost.kp {α : Type} {B : Bc} {Dn : Addr} {AR : AccR α} {σw : L2.St} {Z Z' : Addr → Prop} {H H' : Hp} {o : Out α} {Qd : Hp → Prop} (k : Kp Z H Z' H') (e : ExtD B.g Dn H H') (q : LPost B Dn AR σw Z H o Qd) : LPost B Dn AR σw Z' H' o Qd := by
  cases o with
  | ok a ρ ω => exact fun Z2 H2 j a k2 e2 => q Z2 H2 j a (k.trans k2) (e.trans e2)
  | exc c ω => exact q
  | bad => exact q
theorem loop_gen {α : Type} {B : Bc} {Dn : Addr} {AR : AccR α} {vs : List Nat} {σw : L2.St} {step : D → α → EM α} {ds : List D} {It : L2.It} {Qd : Hp → Prop} {Za : Addr → Prop} {Ha : Hp}
    (w : Wk B.g (fun Z H => Kp Za Ha Z H ∧ ExtD B.g Dn Ha H) It ds) (hAR : ∀ Z H Z' H' a, Grow B.g Z H Z' H' → AR Z H a → AR Z' H' a)
    (Bd : V → Hp → (Hp → Prop) → Prop)
    (hB : ∀ (d : D) (x : V) (Z : Addr → Prop) (H : Hp) (ρ : Fr) (ω : W3) (a : α) (Nx : Hp → Prop), J B Z ρ σw H ω → AR Z H a → RD B.g.tk Z H d x → SPost B Dn AR vs σw Z H (step d a ρ ω) Nx → Bd x H Nx)
    {ρ : Fr} {ω : W3} {a : α} (ja : J B Za ρ σw Ha ω) (ra : AR Za Ha a) (hq : LPost B Dn AR σw Za Ha (loopA vs step ds a ρ ω) Qd) :
    ∃ W : Nat → Nat → Hp → Prop, (∃ m, W 0 m Ha) ∧ ∀ i m H, W i m H → (It.stop i H ∧ Qd H) ∨ (It.go i H ∧ ∃ Nx : Hp → Prop, (∀ H', Nx H' → ∃ m', m' < m ∧ W (i + 1) m' H') ∧ ∀ x H', It.yld i H x H' → Bd x H' Nx) := by
  obtain ⟨G, Y, w1, w2, w3⟩ := w
  let Pv : Nat → Hp → Prop := fun i H => ∃ Z ρ ω a, J B Z ρ σw H ω ∧ AR Z H a ∧ Kp Za Ha Z H ∧ ExtD B.g Dn Ha H ∧ LPost B Dn AR σw Z H (loopA vs step (ds.drop i) a ρ ω) Qd
  refine ⟨fun i m H => m = ds.length - i ∧ i ≤ ds.length ∧ Pv i H, ⟨ds.length, by simp, Nat.zero_le _, Za, ρ, ω, a, ja, ra, .refl, .refl, by rw [List.drop_zero]; exact hq⟩, ?_⟩
  rintro i m H ⟨rfl, hi, Z, ρ, ω, a, j, ra, kp, ex, hq⟩
  have hG := w2 Z H ⟨kp, ex⟩
  by_cases hlt : i < ds.length
  · refine .inr ⟨w1.goes i H hlt hG, Pv (i + 1), fun H' p' => ⟨ds.length - (i + 1), by omega, rfl, hlt, p'⟩, fun x H' y => ?_⟩
    obtain ⟨Z3, d, gr, hd, rd⟩ := w3 i H x H' Z ω hlt j.good ⟨kp, ex⟩ (w1.yields i H x H' hlt hG y)
    have hd' : ds.drop i = d :: ds.drop (i + 1) := by
      rw [List.drop_eq_getElem_cons hlt]
      obtain ⟨_, e⟩ := List.getElem?_eq_some_iff.mp hd
      rw [e]
    rw [hd'] at hq
    unfold loopA at hq
    refine hB d x Z3 H' ρ ω a _ (j.grow gr) (hAR _ _ _ _ _ gr ra) rd ?_
    have k3 : Kp Z H Z3 H' := .of j.good gr.sub gr.ext
    cases es : step d a ρ ω with
    | ok a' ρ' ω' =>
      simp only [es, Out.thenB] at hq
      exact fun Z' H2 j' ra' k' e' => ⟨Z', _, ω', a', j', ra', kp.trans (k3.trans k'), ex.trans (gr.ext.toD.trans e'), hq.kp (k3.trans k') (gr.ext.toD.trans e')⟩
    | exc c ω' => simp only [es, Out.thenB] at hq; exact hq
    | bad => simp only [es, Out.thenB] at hq; exact hq
  · have hi' : i = ds.length := by omega
    subst hi'
    rw [List.drop_length] at hq
    exact .inl ⟨w1.stops H hG, hq Z H j ra .refl .refl⟩

/-! ### dicts whose keys are numbers or texts -/
def sameK (a : D) (k : Key) : Bool := match a, k with
  | .int i, .inl j => decide (i = j)
  | .str s, .inr t => decide (s = t)
  | _, _ => false
def keyOf : D → Option Key
  | .int i => some (.inl i)
  | .str s => some (.inr s)
  | _ => none
def putKD (ks : List (D × D)) (k : Key) (d : D) : List (D × D) := if ks.any (fun kv => sameK kv.1 k) then ks.map (fun kv => if sameK kv.1 k then (kv.1, d) else kv) else ks ++ [(kD k, d)]
theorem sameK_kD (k' k : Key) : sameK (kD k') k = decide (k' = k) := by
  cases k' <;> cases k <;> simp [kD, sameK]
section
variable {tk : Nat → Option V} {Z : Addr → Prop} {H : Hp}
theorem RK.any {k : Key} : ∀ {ks : List (D × D)} {kvs : List (Key × V)}, RK tk Z H ks kvs → ks.any (fun kv => sameK kv.1 k) = kvs.any fun kv => decide (kv.1 = k)
  | _, _, .nil => rfl
  | _, _, .cons r t => by simp only [List.any_cons, sameK_kD, RK.any t]
theorem RK.mapPut {k : Key} {d : D} {v : V} (r : RD tk Z H d v) : ∀ {ks : List (D × D)} {kvs : List (Key × V)}, RK tk Z H ks kvs → RK tk Z H (ks.map fun kv => if sameK kv.1 k then (kv.1, d) else kv) (kvs.map fun kv => if kv.1 = k then (kv.1, v) else kv)
  | _, _, .nil => .nil
  | _, _, .cons (k := k') r' t => by
    simp only [List.map_cons, sameK_kD]
    by_cases e : k' = k
    · rw [decide_eq_true e, if_pos rfl, if_pos e]
      exact .cons r (RK.mapPut r t)
    · rw [decide_eq_false e, if_neg (by simp), if_neg e]
      exact .cons r' (RK.mapPut r t)
theorem RK.app {k : Key} {d : D} {v : V} (r : RD tk Z H d v) : ∀ {ks : List (D × D)} {kvs : List (Key × V)}, RK tk Z H ks kvs → RK tk Z H (ks ++ [(kD k, d)]) (kvs ++ [(k, v)])
  | _, _, .nil => .cons r .nil
  | _, _, .cons r' t => .cons r' (RK.app r t)
theorem RK.put {k : Key} {d : D} {v : V} {ks : List (D × D)} {kvs : List (Key × V)} (r : RD tk Z H d v) (t : RK tk Z H ks kvs) : RK tk Z H (putKD ks k d) (putK kvs k v) := by
  unfold putKD putK
  rw [t.any]
  by_cases h : (kvs.any fun kv => decide (kv.1 = k)) = true
  · rw [if_pos h, if_pos h]; exact RK.mapPut r t
  · rw [if_neg h, if_neg h]; exact RK.app r t
theorem RK.length : ∀ {ks : List (D × D)} {kvs : List (Key × V)}, RK tk Z H ks kvs → ks.length = kvs.length
  | _, _, .nil => rfl
  | _, _, .cons _ t => congrArg (· + 1) t.length
theorem RD.key {d : D} {v : V} {k : Key} (r : RD tk Z H d v) (h : keyOf d = some k) : v = kV k := by
  cases d with
  | int i =>
    cases h
    cases r with
    | int _ => rfl
    | obj _ ro => cases ro
  | str i =>
    cases h
    cases r with
    | str _ => rfl
    | obj _ ro => cases ro
  | _ => cases h
end
/-- the dict at Dn -/
def AK (tk : Nat → Option V) (Dn : Addr) : AccR (List (D × D)) := fun Z H ks => ∃ kvs, H Dn = some (.dK kvs) ∧ RK tk Z H ks kvs
theorem AK.grow {g : Gd} {Dn : Addr} {Z Z' : Addr → Prop} {H H' : Hp} {ks : List (D × D)} (gr : Grow g Z H Z' H') (a : AK g.tk Dn Z H ks) : AK g.tk Dn Z' H' ks := by
  obtain ⟨kvs, h, r⟩ := a
  exact ⟨kvs, gr.keep _ _ h, r.mono gr.sub fun p o _ h => gr.keep p o h⟩
def stepK (t : TM) (fk fv : EM D) : D → List (D × D) → EM (List (D × D)) := fun d ks ρ ω => match t d ρ with
  | none => .bad
  | some ρ1 => (fk ρ1 ω).thenB fun x ρ2 ω2 => (fv ρ2 ω2).thenB fun y ρ3 ω3 => match keyOf x with
    | some k => if ks.length < LIM then .ok (putKD ks k y) ρ3 ω3 else .bad
    | none => .bad
section
variable {B : Bc} {R : Addr → Prop} {Dn : Addr} {vs slots : List Nat} {σw : L2.St} {t : TM} {fk fv : EM D}
theorem stepK_ok (hR : R Dn) (h0 : B.H0 Dn = none) (np : B.g.pd ≠ some Dn) (hsl : ∀ i ∈ slots, i ∈ vs) (hw0 : wipe σw vs = σw) (d : D) (x : V) (Z : Addr → Prop) (H : Hp) (ρ : Fr) (ω : W3) (a : List (D × D)) (Nx : Hp → Prop)
    (j : J (B.blk R) Z ρ σw H ω) (ra : AK B.g.tk Dn Z H a) (rd : RD B.g.tk Z H d x) (hq : SPost (B.blk R) Dn (AK B.g.tk Dn) vs σw Z H (stepK t fk fv d a ρ ω) Nx) :
    ExG B t slots x σw H fun σ2 H2 => wipe σ2 vs = wipe σw vs ∧ ExE B fk σ2 H2 fun y H4 => ExE B fv σ2 H4 fun z H5 => ∃ kvs k, y = kV k ∧ H5 Dn = some (.dK kvs) ∧ kvs.length < sizeLine ∧ Nx (upd H5 Dn (.dK (putK kvs k z))) := by
  unfold stepK at hq
  refine ⟨R, Z, ρ, ω, d, j, rd, ?_⟩
  cases et : t d ρ with
  | none => simp only [et] at hq; exact hq
  | some ρ4 =>
    simp only [et] at hq
    intro σ4 h4 l4 j4
    have hw4 : wipe σ4 vs = wipe σw vs := by
      rw [hw0]
      exact (wipe_eq (fun k hk => by rw [hw0]; exact h4 k fun z => hk (hsl k z)) (by rw [hw0]; exact l4)).trans hw0
    refine ⟨hw4, R, Z, ρ4, ω, j4, ?_⟩
    cases ek : fk ρ4 ω with
    | bad => simp only [ek, Out.thenB] at hq; exact hq
    | exc c ω' => simp only [ek, Out.thenB] at hq; exact hq.elim
    | ok dk ρ5 ω5 =>
      simp only [ek, Out.thenB] at hq
      intro Z5 yk H5 x5 z5 j5 r5
      refine ⟨R, Z5, ρ5, ω5, j5, ?_⟩
      cases ev : fv ρ5 ω5 with
      | bad => simp only [ev] at hq; exact hq
      | exc c ω' => simp only [ev] at hq; exact hq.elim
      | ok dv ρ6 ω6 =>
        simp only [ev] at hq
        intro Z6 yv H6 x6 z6 j6 r6
        cases eo : keyOf dk with
        | none => simp only [eo] at hq; exact hq.elim
        | some k =>
          simp only [eo] at hq
          by_cases hl : a.length < LIM
          · simp only [hl, if_true] at hq
            obtain ⟨kvs, hk, rk⟩ := ra
            have ex : Ext B.g H H6 := x5.trans x6
            have hk6 := ex.keep _ _ hk np fix_dK
            have kp6 : Kp Z H Z6 H6 := (Kp.of j4.good z5 x5).trans (.of j5.good z6 x6)
            have rk6 : RK B.g.tk Z6 H6 a kvs := rk.mono kp6.sub kp6.keep
            have nz : ¬ Z6 Dn := (j6.res Dn (.inr hR)).1
            refine ⟨kvs, k, r5.key eo, hk6, by rw [← rk.length, ← lim_eq]; exact hl, hq Z6 _ ?_ ⟨_, upd_same, ((rk6.put r6).mono (kp_upd (H := H6) (o := .dK (putK kvs k yv)) nz).sub (kp_upd (H := H6) nz).keep)⟩ (kp6.trans (kp_upd nz)) (ex.toD.trans .upd)⟩
            have := (j6.updR (B := B.blk R) (o := .dK (putK kvs k yv)) (.inr hR) h0 np hk6 fix_dK).wipe vs
            rw [hw4, hw0] at this
            exact this
          · simp only [hl, if_false] at hq
            exact hq.elim
theorem wipe_in {σ : L2.St} {vs vs1 : List Nat} (h : ∀ i ∈ vs1, i ∈ vs) : wipe (wipe σ vs1) vs = wipe σ vs := wipe_eq (fun j hj => by rw [wipe_out hj, wipe_out fun z => hj (h j z)]) (by rw [wipe_length, wipe_length])
end
def step2K (vs1 : List Nat) (t : TM) (it1 : EM (List D)) (t1 : TM) (fk fv : EM D) : D → List (D × D) → EM (List (D × D)) := fun d ks ρ ω => match t d ρ with
  | none => .bad
  | some ρ1 => (it1 ρ1 ω).thenB fun ds1 ρ2 ω2 => loopA vs1 (stepK t1 fk fv) ds1 ks (wipeF vs1 ρ2) ω2
def dc2M (vs vs1 : List Nat) (it : EM (List D)) (t : TM) (it1 : EM (List D)) (t1 : TM) (fk fv : EM D) : EM D := fun ρ ω => (it ρ ω).andThen fun ds ρ1 ω1 =>
  if noOwn vs ρ1 then (loopA vs (step2K vs1 t it1 t1 fk fv) ds [] (wipeF vs ρ1) ω1).thenB fun ks ρ2 ω2 => .ok (.dct ks) (restF vs ρ1 ρ2) ω2 else .bad
section
variable {X : Cx} {B : Bc}
/-- the second source, for some reserved set, frozen -/
def ExIf (B : Bc) (f : EM (List D)) : TI := fun σ H Q => ∃ R, RdI (B.blk R) f σ H Q
theorem x_if {tg iter : Expr} {f : EM (List D)} (h : ∀ R, PI X tg iter (RdI (B.blk R) f)) : PI X tg iter (ExIf B f) := ⟨fun pins s σ H Q I ⟨R, q⟩ => (h R).run pins s σ H Q I q⟩
theorem i_dc2 {it it1 : EM (List D)} {vs vs1 sl sl1 : List Nat} {t t1 : TM} {fk fv : EM D} (hsl : ∀ i ∈ sl, i ∈ vs) (hsl1 : ∀ i ∈ sl1, i ∈ vs1) (hv : ∀ i ∈ vs1, i ∈ vs) : ∀ σ H Q, RdE B (dc2M vs vs1 it t it1 t1 fk fv) σ H Q →
    tDc2 (RdI B it) (ExG B t sl) (ExIf B it1) (ExG B t1 sl1) (ExE B fk) (ExE B fv) vs vs1 σ H Q := fun σ H Q ⟨Z, ρ, ω, j, h⟩ => by
  refine ⟨Z, ρ, ω, j, ?_⟩
  unfold dc2M at h
  cases ea : it ρ ω with
  | bad => simp only [ea, Out.andThen] at h
  | exc c ω' => simp only [ea, Out.andThen] at h; exact h
  | ok ds ρ1 ω1 =>
    simp only [ea, Out.andThen] at h
    intro Z1 H1 It e1 z1 j1 w Dn hD
    by_cases hno : noOwn vs ρ1 = true
    · simp only [hno, if_true] at h
      obtain ⟨n1, n2, n3, n5, n4⟩ := fresh_of j1 hD
      have gr : Grow B.g Z1 H1 Z1 (upd H1 Dn (.dK [])) := grow_new0 hD
      have ja : J (B.blk (· = Dn)) Z1 (wipeF vs ρ1) (L2.wipe σ vs) (upd H1 Dn (.dK [])) ω1 := by
        refine ((j1.grow gr).toBlk (R := (· = Dn)) fun p hp => ?_).wipe vs
        subst hp
        exact ⟨n1, (by rw [upd_same]; intro z; cases z), n4⟩
      have kk : Kp Z1 H1 Z1 (upd H1 Dn (.dK [])) := .of j1.good gr.sub gr.ext
      have ww : L2.wipe (L2.wipe σ vs) vs = L2.wipe σ vs := wipe_in fun _ h => h
      refine loop_gen (B := B.blk (· = Dn)) (Dn := Dn) (AR := AK B.g.tk Dn) (vs := vs) (step := step2K vs1 t it1 t1 fk fv) (w.weak fun Z H r => kk.trans r.1) (fun _ _ _ _ _ g a => a.grow (g := B.g) g) _ ?_ ja ⟨[], upd_same, .nil⟩ ?_
      · intro d x Z2 H2 ρ2 ω2 a Nx j2 ra rd hq
        unfold step2K at hq
        refine ⟨(· = Dn), Z2, ρ2, ω2, d, j2, rd, ?_⟩
        cases et : t d ρ2 with
        | none => simp only [et] at hq; exact hq
        | some ρ4 =>
          simp only [et] at hq
          intro σ4 h4 l4 j4
          have hw4 : L2.wipe σ4 vs = L2.wipe σ vs := wipe_eq (fun k hk => h4 k fun z => hk (hsl k z)) l4
          refine ⟨hw4, (· = Dn), Z2, ρ4, ω2, j4, ?_⟩
          cases ei : it1 ρ4 ω2 with
          | bad => simp only [ei, Out.thenB] at hq; exact hq
          | exc c ω' => simp only [ei, Out.thenB] at hq; exact hq.elim
          | ok ds1 ρ5 ω5 =>
            simp only [ei, Out.thenB] at hq
            intro Z5 H5 It1 x5 z5 j5 w5
            have k5 : Kp Z2 H2 Z5 H5 := .of j4.good z5 x5
            have x5 : Ext B.g H2 H5 := x5
            have ra5 : AK B.g.tk Dn Z5 H5 a := by
              obtain ⟨kvs, hk, rk⟩ := ra
              exact ⟨kvs, x5.keep _ _ hk n2 fix_dK, rk.mono k5.sub k5.keep⟩
            have ww1 : L2.wipe (L2.wipe σ4 vs1) vs1 = L2.wipe σ4 vs1 := wipe_in fun _ h => h
            refine loop_gen (B := B.blk (· = Dn)) (Dn := Dn) (AR := AK B.g.tk Dn) (vs := vs1) (step := stepK t1 fk fv) (w5.weak fun Z H r => r.1) (fun _ _ _ _ _ g a => a.grow (g := B.g) g) _ ?_ (j5.wipe vs1) ra5 ?_
            · intro d x Z H ρ ω a Nx j ra rd hq
              have := stepK_ok (R := (· = Dn)) rfl n3 n2 hsl1 ww1 d x Z H ρ ω a Nx j ra rd hq
              rw [ww1] at this
              exact this
            · cases el : loopA vs1 (stepK t1 fk fv) ds1 a (wipeF vs1 ρ5) ω5 with
              | bad => simp only [el] at hq; exact hq
              | exc c ω' => simp only [el] at hq; exact hq
              | ok ks ρ6 ω6 =>
                simp only [el] at hq
                intro Z6 H6 j6 ra6 k6 x6
                refine hq Z6 H6 ?_ ra6 (k5.trans k6) (x5.toD.trans x6)
                have := j6.wipe vs
                rw [wipe_in hv, hw4] at this
                exact this
      · cases ec : loopA vs (step2K vs1 t it1 t1 fk fv) ds [] (wipeF vs ρ1) ω1 with
        | bad => simp only [ec, Out.thenB] at h
        | exc c ω' => simp only [ec, Out.thenB] at h
        | ok ks ρ2 ω2 =>
          simp only [ec, Out.thenB] at h
          intro Z2 H2 j2 ra2 k2 x2
          obtain ⟨kvs, hk, rk⟩ := ra2
          have ex : Ext B.g H1 H2 := ExtD.after gr.ext x2 hD
          have kp : Kp Z1 H1 Z2 H2 := kk.trans k2
          have jf := J.rest j1 (j2.ofBlk0 (R := (· = Dn))) kp hno
          have hn : ∀ (i : Nat) (d : D), (restF vs ρ1 ρ2)[i]? = some (.own d) → σ[i]? ≠ some (some (.ref Dn)) := fun i d hi hs => by
            by_cases hiv : i ∈ vs
            · have hlt : i < ρ2.length := by
                have := (List.getElem?_eq_some_iff.mp hi).1
                rw [restF_len] at this; exact this
              rw [restF_in hiv hlt] at hi
              have hl2 : ρ2.length = ρ1.length := by rw [j2.len, wipe_length, j1.len]
              have hlt1 : i < ρ1.length := by rw [← hl2]; exact hlt
              have := List.all_eq_true.mp hno i hiv
              rw [List.getD_eq_getElem?_getD, List.getElem?_eq_getElem hlt1] at hi
              rw [List.getElem?_eq_getElem hlt1] at this
              have hi' : ρ1[i] = .own d := by simpa using hi
              rw [hi'] at this
              simp [isOwn] at this
            · rw [restF_out hiv] at hi
              obtain ⟨p, q1, q2, q3, q4, q5, q6⟩ := j2.own i d hi
              rw [wipe_out hiv, hs] at q1
              cases q1
              exact q6 (.inr rfl)
          have nz := (j2.res Dn (.inr rfl)).1
          refine h _ (.ref Dn) H2 (e1.trans ex) (fun p z => .inl (kp.sub p (z1 p z))) (jf.adopt hk fix_dK n2 n3 n5 hn) (.obj (.inr rfl) (.dK hk (rk.mono (fun _ z => .inl z) fun _ _ _ h => h)))
    · simp only [hno, if_false] at h
      exact h.elim
/-- len of a dict -/
def lenKD (a : D) : Option D := match a with
  | .dct ks => some (.int ks.length)
  | .dctT ks => some (.int ks.length)
  | _ => none
end
end L2.Fl

namespace L2.Fl
open PySem PySem.Spec PyProof.Rows

/-! ### min, max of alike data -/
theorem minD_mem (x : PyData) : ∀ xs : List PyData, PySem.W.minD x xs ∈ x :: xs := fun xs => by
  have key : ∀ (xs : List PyData) (a : PyData) (S : List PyData), a ∈ S → (∀ y ∈ xs, y ∈ S) → xs.foldl (fun a y => if PySem.W.dataLt y a then y else a) a ∈ S := by
    intro xs
    induction xs with
    | nil => exact fun a S h _ => h
    | cons y ys ih =>
      intro a S h hs
      rw [List.foldl_cons]
      refine ih _ S ?_ fun z hz => hs z (List.mem_cons_of_mem _ hz)
      split
      · exact hs y List.mem_cons_self
      · exact h
  exact key xs x _ List.mem_cons_self fun y hy => List.mem_cons_of_mem _ hy
theorem maxD_mem (x : PyData) : ∀ xs : List PyData, PySem.W.maxD x xs ∈ x :: xs := fun xs => by
  have key : ∀ (xs : List PyData) (a : PyData) (S : List PyData), a ∈ S → (∀ y ∈ xs, y ∈ S) → xs.foldl (fun a y => if PySem.W.dataLt a y then y else a) a ∈ S := by
    intro xs
    induction xs with
    | nil => exact fun a S h _ => h
    | cons y ys ih =>
      intro a S h hs
      rw [List.foldl_cons]
      refine ih _ S ?_ fun z hz => hs z (List.mem_cons_of_mem _ hz)
      split
      · exact hs y List.mem_cons_self
      · exact h
  exact key xs x _ List.mem_cons_self fun y hy => List.mem_cons_of_mem _ hy
/-- of alike data one that stands in the list, by a choice c of the kit's -/
def rBestA (K : PySem.W.Frag) (c : PyData → List PyData → PyData) : List V → Hp → VK → Prop := fun vs H Q => ∃ (a : Addr) (ys : List V) (x : PyData) (xs : List PyData), vs = [.ref a] ∧ (SqL K H a ys ∨ SqT K H a ys) ∧ DpAll K H ys (x :: xs) ∧ PySem.W.AlikeAll (x :: xs) ∧ PyData.depthAll (x :: xs) ≤ 64 ∧
  ∀ (i : Nat) (v : V), ys[i]? = some v → (x :: xs)[i]? = some (c x xs) → Q v H
section
variable {X : Cx} {pins : List (Addr × Obj)} {σ : L2.St} {H : Hp} {s : Shared}
theorem readsAllDp (I : Inv X pins σ H s) : ∀ {ds : List PyData} {vs : List V} {us : List Value}, DpAll X.K H vs ds → Vals vs us → ∃ as, ReadsAll s.heap us ds as
  | _, _, _, .nil, .nil => ⟨_, .nil⟩
  | _, _, _, .cons h t, .cons r q => by
    obtain ⟨as, h1⟩ := Dp.reads I _ _ _ h r
    obtain ⟨bs, h2⟩ := readsAllDp I t q
    exact ⟨_, .cons h1 h2⟩
theorem best_end {ds : PyData} {xs : List PyData} {m : PyData} {its : List Value} {as bs : List Addr} {h' : Heap} {i : Nat} {v : Value} (hr : ReadsAll s.heap its (ds :: xs) as) (ha : PySem.W.AlikeAll (ds :: xs)) (hm : m ∈ ds :: xs) (hv : its[i]? = some v) (hR : Reads h' v m bs) (hk : ∀ b o, s.heap.get? b = some o → h'.get? b = some o) :
    (ds :: xs)[i]? = some m := by
  obtain ⟨cs, r1, hi, hmem, _⟩ := PySem.W.readsAll_at hr i v hv
  have r2 := PySem.W.reads_keeps hk r1
  have e := PySem.W.alike_unique _ _ v _ _ (ha.1 m hm _ hmem) hR r2
  rw [List.getD_eq_getElem?_getD] at e
  rw [List.getElem?_eq_getElem hi] at e ⊢
  simp only [Option.getD_some] at e
  rw [e]
theorem valsGetR : ∀ {xs : List V} {us : List Value} {i : Nat} {u : Value}, Vals xs us → us[i]? = some u → ∃ x, xs[i]? = some x ∧ RelV x u
  | _, _, _, _, .nil, h => by simp at h
  | _, _, 0, _, .cons r _, h => by simp at h; subst h; exact ⟨_, rfl, r⟩
  | _, _, i + 1, _, .cons _ t, h => by
    obtain ⟨x, h1, h2⟩ := valsGetR (i := i) t (by simpa using h)
    exact ⟨x, by simpa using h1, h2⟩
end
section
variable {X : Cx}
theorem call_minA (hc : X.calm = true) (hu : X.A.units + 65 < cLine) : CallR X (.builtin "min") (rBestA X.K PySem.W.minD) := by
  intro pins s σ H vs us Q I r h
  obtain ⟨a, ys, x, xs, rfl, hs, hd, ha, hdep, q⟩ := h
  rw [Vals.ref1 r]
  rcases hs with hs | hs
  · obtain ⟨its, rv, hl, _⟩ := I.list hs
    obtain ⟨as, hr⟩ := readsAllDp I hd rv
    refine PySem.W.min_list_data (vs := its.toArray) (I.ok.hd hc) hl.isList (by simpa using hr) ha (by omega) fun i v h' tk bs hv hR hk => ?_
    have hv : its[i]? = some v := by simpa using hv
    obtain ⟨y, hy, ry⟩ := valsGetR rv hv
    exact ⟨y, H, I.kept hk, ry, q i y hy (best_end hr ha (minD_mem x xs) hv hR hk)⟩
  · obtain ⟨its, rv, hl, _⟩ := I.tuple hs
    obtain ⟨as, hr⟩ := readsAllDp I hd rv
    refine PySem.W.min_tuple_data (vs := its.toArray) (I.ok.hd hc) hl (by simpa using hr) ha (by omega) fun i v h' tk bs hv hR hk => ?_
    have hv : its[i]? = some v := by simpa using hv
    obtain ⟨y, hy, ry⟩ := valsGetR rv hv
    exact ⟨y, H, I.kept hk, ry, q i y hy (best_end hr ha (minD_mem x xs) hv hR hk)⟩
theorem call_maxA (hc : X.calm = true) (hu : X.A.units + 65 < cLine) : CallR X (.builtin "max") (rBestA X.K PySem.W.maxD) := by
  intro pins s σ H vs us Q I r h
  obtain ⟨a, ys, x, xs, rfl, hs, hd, ha, hdep, q⟩ := h
  rw [Vals.ref1 r]
  rcases hs with hs | hs
  · obtain ⟨its, rv, hl, _⟩ := I.list hs
    obtain ⟨as, hr⟩ := readsAllDp I hd rv
    refine PySem.W.max_list_data (vs := its.toArray) (I.ok.hd hc) hl.isList (by simpa using hr) ha (by omega) fun i v h' tk bs hv hR hk => ?_
    have hv : its[i]? = some v := by simpa using hv
    obtain ⟨y, hy, ry⟩ := valsGetR rv hv
    exact ⟨y, H, I.kept hk, ry, q i y hy (best_end hr ha (maxD_mem x xs) hv hR hk)⟩
  · obtain ⟨its, rv, hl, _⟩ := I.tuple hs
    obtain ⟨as, hr⟩ := readsAllDp I hd rv
    refine PySem.W.max_tuple_data (vs := its.toArray) (I.ok.hd hc) hl (by simpa using hr) ha (by omega) fun i v h' tk bs hv hR hk => ?_
    have hv : its[i]? = some v := by simpa using hv
    obtain ⟨y, hy, ry⟩ := valsGetR rv hv
    exact ⟨y, H, I.kept hk, ry, q i y hy (best_end hr ha (maxD_mem x xs) hv hR hk)⟩
end
/-! the choice, on plain data -/
def alikeD (xs : List D) : Bool := (xs.all fun x => xs.all fun y => PySem.W.alike (pD x) (pD y)) && xs.all fun x => match x with
  | .non => false
  | _ => true
def ltd (a b : D) : Bool := PySem.W.dataLt (pD a) (pD b)
def bestD (c : D → D → Bool) (x : D) (xs : List D) : D := xs.foldl (fun a y => if c a y then y else a) x
def bestOf (c : D → D → Bool) (a : D) : Option D := match items? a with
  | some (x :: xs) => if okDs (x :: xs) 8 && alikeD (x :: xs) then some (bestD c x xs) else none
  | _ => none
theorem okDs_mem : ∀ {xs : List D} {n : Nat}, okDs xs n = true → ∀ x ∈ xs, okD x n = true
  | x :: xs, n, h, y, hy => by
    simp only [okDs, Bool.and_eq_true] at h
    rcases List.mem_cons.mp hy with e | e
    · rw [e]; exact h.1
    · exact okDs_mem h.2 y e
theorem pDs_map : ∀ xs : List D, pDs xs = xs.map pD
  | [] => rfl
  | x :: xs => by simp only [pDs, List.map_cons, pDs_map xs]
theorem alikeD_all {xs : List D} {n : Nat} (hn : okDs xs n = true) (h : alikeD xs = true) : PySem.W.AlikeAll (pDs xs) := by
  unfold alikeD at h
  simp only [Bool.and_eq_true, List.all_eq_true] at h
  rw [pDs_map]
  refine ⟨fun x hx y hy => ?_, fun x hx => ?_⟩
  · obtain ⟨a, ha, rfl⟩ := List.mem_map.mp hx
    obtain ⟨b, hb, rfl⟩ := List.mem_map.mp hy
    exact h.1 a ha b hb
  · obtain ⟨a, ha, rfl⟩ := List.mem_map.mp hx
    have := h.2 a ha
    have ok := okDs_mem hn a ha
    cases a <;> simp_all [pD, okD]
mutual
theorem pD_inj : ∀ (a b : D) (n m : Nat), okD a n = true → okD b m = true → pD a = pD b → a = b
  | a, b, n, m, ha, hb, h => by
    cases a <;> cases b <;> first
      | (simp [okD] at ha; done)
      | (simp [okD] at hb; done)
      | (simp [pD] at h; done)
      | rfl
      | (simp only [pD, PyData.bool.injEq] at h; rw [h]; done)
      | (simp only [pD, PyData.int.injEq] at h; rw [h]; done)
      | (simp only [pD, PyData.str.injEq] at h; rw [h]; done)
      | (rename_i xs ys
         cases n with
         | zero => simp [okD] at ha
         | succ n =>
           cases m with
           | zero => simp [okD] at hb
           | succ m =>
             simp only [okD] at ha hb
             first
               | (simp only [pD, PyData.tuple.injEq] at h; rw [pDs_inj xs ys n m ha hb h])
               | (simp only [pD, PyData.list.injEq] at h; rw [pDs_inj xs ys n m ha hb h]))
theorem pDs_inj : ∀ (a b : List D) (n m : Nat), okDs a n = true → okDs b m = true → pDs a = pDs b → a = b
  | [], [], _, _, _, _, _ => rfl
  | [], _ :: _, _, _, _, _, h => by simp [pDs] at h
  | _ :: _, [], _, _, _, _, h => by simp [pDs] at h
  | x :: xs, y :: ys, n, m, ha, hb, h => by
    simp only [okDs, Bool.and_eq_true] at ha hb
    simp only [pDs, List.cons.injEq] at h
    rw [pD_inj x y n m ha.1 hb.1 h.1, pDs_inj xs ys n m ha.2 hb.2 h.2]
end
theorem best_map {c : D → D → Bool} {cp : PyData → PyData → Bool} (hc : ∀ a b, c a b = cp (pD a) (pD b)) : ∀ (xs : List D) (x : D), pD (bestD c x xs) = (xs.map pD).foldl (fun a y => if cp a y then y else a) (pD x)
  | [], x => rfl
  | y :: ys, x => by
    unfold bestD
    rw [List.foldl_cons, List.map_cons, List.foldl_cons, ← hc]
    have := best_map hc ys (if c x y then y else x)
    unfold bestD at this
    rw [this]
    congr 1
    split <;> rfl
theorem best_mem {c : D → D → Bool} : ∀ (xs : List D) (x : D), bestD c x xs ∈ x :: xs
  | [], x => List.mem_cons_self
  | y :: ys, x => by
    have := best_mem (c := c) ys (if c x y then y else x)
    unfold bestD at this ⊢
    rw [List.foldl_cons]
    rcases List.mem_cons.mp this with e | e
    · rw [e]
      split
      · exact List.mem_cons_of_mem _ List.mem_cons_self
      · exact List.mem_cons_self
    · exact List.mem_cons_of_mem _ (List.mem_cons_of_mem _ e)
def minDD (a : D) : Option D := bestOf (fun a y => ltd y a) a
def maxDD (a : D) : Option D := bestOf (fun a y => ltd a y) a
section
variable {g : Gd} {K : PySem.W.Frag}
theorem sim_best {c : D → D → Bool} {cp : PyData → PyData → Bool} {cc : PyData → List PyData → PyData} (hc : ∀ a b, c a b = cp (pD a) (pD b)) (hcc : ∀ x xs, cc x xs = xs.foldl (fun a y => if cp a y then y else a) x) : Sim1 g (r1c (rBestA K cc)) (bestOf c) := fun Z H ω v a d Q G ra h hq => by
  unfold bestOf at h
  split at h
  · rename_i x xs e
    by_cases hk : (okDs (x :: xs) 8 && alikeD (x :: xs)) = true
    · rw [if_pos hk] at h
      cases h
      have hk := Bool.and_eq_true_iff.mp hk
      obtain ⟨p, vs, rfl, hs, rs⟩ := items_br (K := K) ra e
      have hdep : PyData.depthAll (pDs (x :: xs)) ≤ 64 := by have := (okDs_canLay _ _ hk.1).2; omega
      refine ⟨p, vs, pD x, pDs xs, rfl, hs, rs.dp hk.1, alikeD_all hk.1 hk.2, hdep, fun i y hy hi => ?_⟩
      obtain ⟨d', h1, h2⟩ := rs.get' hy
      have e1 : (pDs (x :: xs))[i]? = some (pD d') := by rw [pDs_map, List.getElem?_map, h1]; rfl
      have e2 : (pDs (x :: xs))[i]? = some (cc (pD x) (pDs xs)) := hi
      rw [e1] at e2
      have e3 : pD d' = pD (bestD c x xs) := by rw [best_map hc, ← pDs_map, ← hcc]; exact Option.some.inj e2
      have hm : d' ∈ x :: xs := List.mem_of_getElem? h1
      have := pD_inj _ _ 8 8 (okDs_mem hk.1 _ hm) (okDs_mem hk.1 _ (best_mem xs x)) e3
      rw [this] at h2
      exact hq Z _ H .refl h2
    · rw [if_neg hk] at h; cases h
  · cases h
theorem sim_minA : Sim1 g (r1c (rBestA K PySem.W.minD)) minDD := sim_best (cp := fun a y => PySem.W.dataLt y a) (fun _ _ => rfl) fun _ _ => rfl
theorem sim_maxA : Sim1 g (r1c (rBestA K PySem.W.maxD)) maxDD := sim_best (cp := fun a y => PySem.W.dataLt a y) (fun _ _ => rfl) fun _ _ => rfl
/-- len of a dict -/
def rLenK : List V → Hp → VK → Prop := fun xs H Q => (∃ a kvs, xs = [V.ref a] ∧ H a = some (.dK kvs) ∧ Q (.int kvs.length) H) ∨ rLenT xs H Q
theorem RT.length {tk : Nat → Option V} {Z : Addr → Prop} {H : Hp} : ∀ {ks : List (D × D)} {kvs : List (List Key × V)}, RT tk Z H ks kvs → ks.length = kvs.length
  | _, _, .nil => rfl
  | _, _, .cons _ t => congrArg (· + 1) t.length
theorem BR.dct {Z : Addr → Prop} {H : Hp} {ks : List (D × D)} {v : V} (r : BR g Z H (.dct ks) v) : ∃ p, v = .ref p ∧ (∃ kvs, H p = some (.dK kvs) ∧ RK g.tk Z H ks kvs) := by
  have key : ∀ p, RO g.tk Z H (.dct ks) p → (∃ kvs, H p = some (.dK kvs) ∧ RK g.tk Z H ks kvs) := fun p r => by
    cases r with
    | dK h r => exact ⟨_, h, r⟩
  rcases r with r | ⟨p, rfl, n, r⟩
  · cases r with
    | obj z r => exact ⟨_, rfl, key _ r⟩
  · exact ⟨p, rfl, key _ r⟩
theorem BR.dctT {Z : Addr → Prop} {H : Hp} {ks : List (D × D)} {v : V} (r : BR g Z H (.dctT ks) v) : ∃ p, v = .ref p ∧ (∃ kvs, H p = some (.dT kvs) ∧ RT g.tk Z H ks kvs) := by
  have key : ∀ p, RO g.tk Z H (.dctT ks) p → (∃ kvs, H p = some (.dT kvs) ∧ RT g.tk Z H ks kvs) := fun p r => by
    cases r with
    | dT h r => exact ⟨_, h, r⟩
  rcases r with r | ⟨p, rfl, n, r⟩
  · cases r with
    | obj z r => exact ⟨_, rfl, key _ r⟩
  · exact ⟨p, rfl, key _ r⟩
theorem sim_lenK : Sim1 g (r1c rLenK) lenKD := fun Z H ω v a d Q G ra h hq => by
  cases a with
  | dct ks =>
    cases h
    obtain ⟨p, rfl, kvs, h1, h2⟩ := ra.dct
    exact .inl ⟨p, kvs, rfl, h1, by rw [← h2.length]; exact hq Z _ H .refl (.int _)⟩
  | dctT ks =>
    cases h
    obtain ⟨p, rfl, kvs, h1, h2⟩ := ra.dctT
    exact .inr ⟨p, kvs, rfl, h1, by rw [← h2.length]; exact hq Z _ H .refl (.int _)⟩
  | _ => cases h
end
section
variable {X : Cx} {B : Bc} {e a b : Expr} {p pos : Pos} {fa fb : EM D} {k : Nat}
theorem eMinA (hc : X.calm = true) (hr : Room k X.A) (hb : Bn X.mg) (ha : PE X a (RdB B fa)) (hg : Gl X "min" := by rfl) (he : starEach [a] X.env = (false, eval a X.env) :: starEach [] X.env := by rfl) (hpl : (backTo pos (starEach [] X.env)).any (·.1) = false := by rfl) :
    PE X (.Call (.Name "min" p) [a] [] pos) (RdE B (op1 minDD fa)) := m_op1 sim_minA (fun ta ha => pe_callB (call_minA hc (room65 hr)) hg hb.min (by decide +kernel) (pa_cons ha pa_nil he) (he := he) (hpl := hpl)) ha
theorem eMaxA (hc : X.calm = true) (hr : Room k X.A) (hb : Bn X.mg) (ha : PE X a (RdB B fa)) (hg : Gl X "max" := by rfl) (he : starEach [a] X.env = (false, eval a X.env) :: starEach [] X.env := by rfl) (hpl : (backTo pos (starEach [] X.env)).any (·.1) = false := by rfl) :
    PE X (.Call (.Name "max" p) [a] [] pos) (RdE B (op1 maxDD fa)) := m_op1 sim_maxA (fun ta ha => pe_callB (call_maxA hc (room65 hr)) hg hb.max (by decide +kernel) (pa_cons ha pa_nil he) (he := he) (hpl := hpl)) ha
theorem eLenK (hb : Bn X.mg) (ha : PE X a (RdB B fa)) (hg : Gl X "len" := by rfl) (he : starEach [a] X.env = (false, eval a X.env) :: starEach [] X.env := by rfl) (hpl : (backTo pos (starEach [] X.env)).any (·.1) = false := by rfl) :
    PE X (.Call (.Name "len" p) [a] [] pos) (RdE B (op1 lenKD fa)) := m_op1 sim_lenK (fun ta ha => pe_callB (call_lenD.or call_len_dT) hg hb.len (by decide +kernel) (pa_cons ha pa_nil he) (he := he) (hpl := hpl)) ha
end
end L2.Fl

namespace L2.Fl
open PySem PySem.Spec PyProof.Rows

/-- a class of errors of one's own, under ValueError, without an __init__ of its own -/
structure OwnX (K : PySem.W.Frag) (mg : Str → Option Value) (x : Str) (C : Addr) : Prop where
  g : mg x = some (.ref C)
  q : PySem.W.excIn K C [.type "ValueError", .type "Exception", .type "BaseException", .type "object"] "ValueError.__new__" = true
  k : PySem.W.keepIn K (.ref C) = true
  b : PySem.W.subIn K (.ref C) (.type "BaseException") = some true
  t : PySem.W.typeIn K (.ref C) = some (.type "type")
section
variable {X : Cx} {B : Bc} {e a b c tg iter : Expr} {p p2 pos pos2 apos : Pos} {st : Stmt} {rest body orelse : List Stmt}
theorem sRaise {n : Nat} {x m : Str} {j : Nat} (hc : X.calm = true) (o : OwnX X.K X.mg x (B.cls n)) (tk : Takes X (fun cls d _ H => B.E cls d H)) (hg : Gl X x := by rfl) (hdb : (x == ("__debug__" : Str)) = false := by decide) :
    PS X (.Raise (some (.Call (.Name x p) [.Constant (.str m) j p2] [] pos)) none pos2) (RdS B (raS n)) :=
  s_raise (ps_raise hc tk (pmk_own PySem.F.excBase_ValueError o.q o.g o.k (raises_own o.b o.t) hg hdb))
theorem takesF {P : Program} {w : World} {K : PySem.W.Frag} {mg : Str → Option Value} {base : Heap} {N : List Str} {qual : Str} {scope : Scope} {f : Addr} {cd : Value} {A : Around} {outer : List Env} {s : Shared} {H : Hp} {E : XK} :
    Takes (cxOf (CX P w) P w K mg base N qual scope f cd A outer s H E) (fun cls d _ H => E cls d H) := takes_of rfl rfl rfl rfl
/-- a target of any form -/
def asgS (t : TM) (f : EM D) : SM := fun ρ ω => (f ρ ω).stm fun d ρ ω => match t d ρ with
  | some ρ' => .nx ρ' ω
  | none => .bad
theorem s_asgT {t : TM} {f : EM D} {sl : List Nat} (h : PS X st (tAsg (RdE B f) (RdG B t sl))) : PS X st (RdS B (asgS t f)) := PS.imp h fun D σ H ⟨Z, ρ, ω, j, q⟩ => by
  refine ⟨Z, ρ, ω, j, ?_⟩
  unfold asgS at q
  cases ea : f ρ ω with
  | bad => simp only [ea, Out.stm] at q; exact q
  | exc c ω' => simp only [ea, Out.stm] at q; exact q
  | ok d ρ1 ω1 =>
    simp only [ea, Out.stm] at q
    intro Z1 v H1 e1 z1 j1 r1
    refine ⟨Z1, ρ1, ω1, d, j1, r1, ?_⟩
    cases et : t d ρ1 with
    | none => simp only [et] at q; exact q
    | some ρ2 =>
      simp only [et] at q
      exact fun σ' _ _ j2 => q Z1 σ' H1 (.of j.good z1 e1) j2
theorem sAsgT {t : TM} {f : EM D} {sl : List Nat} (he : PE X e (RdE B f)) (hg : PG X tg (RdG B t sl)) (hs : swapsWithSole [tg] e pos.line X.env = pure false := by rfl) (hw : swappedStores [tg] e X.env = pure none := by rfl)
    (h1 : (assignEach [tg] X.env).map (·.2) = [assign tg X.env] := by rfl) : PS X (.Assign [tg] e pos) (RdS B (asgS t f)) := s_asgT (ps_asg he hg hs hw h1)
/-! comprehensions, in the generator's words -/
section
variable {elt kx vx tb ib : Expr} {ifs : List Expr} {scope : Scope} {own : List (Str × Nat)} {slots slots1 vs1 : List Nat} {it it1 : EM (List D)} {t t1 : TM} {tt : EM Bool} {te fk fv : EM D} {i : Nat} {y : Str} {py spos : Pos}
theorem sSetLc (hc : X.calm = true) (hN : X.N.Nodup) (hy : X.N[i]? = some y) (hyl : X.env.scope.names.lookup y = some .local) (hsw : swapsWith (.ListComp elt [⟨tg, iter, ifs, 0⟩] scope pos) (some (.Name y py)) spos.line X.env = pure true)
    (hi : PI X tg iter (RdIB B it)) (ok : BlkOk X.N X.env.scope scope own) (hsl : ∀ i ∈ slots, i ∈ own.map (·.2))
    (hg : ∀ (R : Addr → Prop) (s : Shared) (H : Hp) (C : Addr) (cl : List (Str × Addr)) (fp : List Addr), PG (X.blk s H scope (compEnvC scope cl C X.env) fp) tg (RdG (B.blk R) t slots))
    (ht : ∀ (R : Addr → Prop) (s : Shared) (H : Hp) (C : Addr) (cl : List (Str × Addr)) (fp : List Addr), PTs (X.blk s H scope (compEnvC scope cl C X.env) fp) ifs (RdT (B.blk R) tt))
    (he : ∀ (R : Addr → Prop) (s : Shared) (H : Hp) (C : Addr) (cl : List (Str × Addr)) (fp : List Addr), PE (X.blk s H scope (compEnvC scope cl C X.env) fp) elt (RdE (B.blk R) te))
    (hs : ∀ x, foldedSetIterable iter X.env x = pure x := by intro _; rfl) : PS X (.Assign [.Name y py] (.ListComp elt [⟨tg, iter, ifs, 0⟩] scope pos) spos) (RdS B (setS i (frz (lcM (own.map (·.2)) it t tt te)))) :=
  s_setLc hsl (ps_setLc hc hN hy hyl hsw hi ok (fun s H C cl fp => x_g fun R => hg R s H C cl fp) (fun s H C cl fp => x_t fun R => ht R s H C cl fp) (fun s H C cl fp => x_e fun R => he R s H C cl fp) hs)
theorem sOwnLc (hc : X.calm = true) (hN : X.N.Nodup) (hy : X.N[i]? = some y) (hyl : X.env.scope.names.lookup y = some .local) (hsw : swapsWith (.ListComp elt [⟨tg, iter, ifs, 0⟩] scope pos) (some (.Name y py)) spos.line X.env = pure true)
    (hi : PI X tg iter (RdIB B it)) (ok : BlkOk X.N X.env.scope scope own) (hsl : ∀ i ∈ slots, i ∈ own.map (·.2))
    (hg : ∀ (R : Addr → Prop) (s : Shared) (H : Hp) (C : Addr) (cl : List (Str × Addr)) (fp : List Addr), PG (X.blk s H scope (compEnvC scope cl C X.env) fp) tg (RdG (B.blk R) t slots))
    (ht : ∀ (R : Addr → Prop) (s : Shared) (H : Hp) (C : Addr) (cl : List (Str × Addr)) (fp : List Addr), PTs (X.blk s H scope (compEnvC scope cl C X.env) fp) ifs (RdT (B.blk R) tt))
    (he : ∀ (R : Addr → Prop) (s : Shared) (H : Hp) (C : Addr) (cl : List (Str × Addr)) (fp : List Addr), PE (X.blk s H scope (compEnvC scope cl C X.env) fp) elt (RdE (B.blk R) te))
    (hs : ∀ x, foldedSetIterable iter X.env x = pure x := by intro _; rfl) : PS X (.Assign [.Name y py] (.ListComp elt [⟨tg, iter, ifs, 0⟩] scope pos) spos) (RdS B (ownS i (lcM (own.map (·.2)) it t tt te))) :=
  s_ownLc hsl (ps_setLc hc hN hy hyl hsw hi ok (fun s H C cl fp => x_g fun R => hg R s H C cl fp) (fun s H C cl fp => x_t fun R => ht R s H C cl fp) (fun s H C cl fp => x_e fun R => he R s H C cl fp) hs)
theorem eDc2 (hc : X.calm = true) (hN : X.N.Nodup) (hi : PI X tg iter (RdI B it)) (ok : BlkOk X.N X.env.scope scope own) (hsl : ∀ i ∈ slots, i ∈ own.map (·.2)) (hsl1 : ∀ i ∈ slots1, i ∈ vs1) (hv : ∀ i ∈ vs1, i ∈ own.map (·.2))
    (hg : ∀ (R : Addr → Prop) (s : Shared) (H : Hp) (C : Addr) (cl : List (Str × Addr)) (fp : List Addr), PG (X.blk s H scope (compEnvC scope cl C X.env) fp) tg (RdG (B.blk R) t slots))
    (hi1 : ∀ (R : Addr → Prop) (s : Shared) (H : Hp) (C : Addr) (cl : List (Str × Addr)) (fp : List Addr), PI (X.blk s H scope (compEnvC scope cl C X.env) fp) tb ib (RdI (B.blk R) it1))
    (hg1 : ∀ (R : Addr → Prop) (s : Shared) (H : Hp) (C : Addr) (cl : List (Str × Addr)) (fp : List Addr), PG (X.blk s H scope (compEnvC scope cl C X.env) fp) tb (RdG (B.blk R) t1 slots1))
    (hk : ∀ (R : Addr → Prop) (s : Shared) (H : Hp) (C : Addr) (cl : List (Str × Addr)) (fp : List Addr), PE (X.blk s H scope (compEnvC scope cl C X.env) fp) kx (RdE (B.blk R) fk))
    (he : ∀ (R : Addr → Prop) (s : Shared) (H : Hp) (C : Addr) (cl : List (Str × Addr)) (fp : List Addr), PE (X.blk s H scope (compEnvC scope cl C X.env) fp) vx (RdE (B.blk R) fv))
    (hs : ∀ x, foldedSetIterable iter X.env x = pure x := by intro _; rfl) (hs1 : ∀ env x, foldedSetIterable ib env x = pure x := by intro _ _; rfl) : PE X (DC2 kx vx tg iter tb ib scope pos) (RdE B (dc2M (own.map (·.2)) vs1 it t it1 t1 fk fv)) :=
  PE.imp (pe_dc2 hc hN hi ok hv (fun s H C cl fp => x_g fun R => hg R s H C cl fp) (fun s H C cl fp => x_if fun R => hi1 R s H C cl fp) (fun s H C cl fp => x_g fun R => hg1 R s H C cl fp) (fun s H C cl fp => x_e fun R => hk R s H C cl fp) (fun s H C cl fp => x_e fun R => he R s H C cl fp) hs hs1) (i_dc2 hsl hsl1 hv)
theorem sSetDc2 (hc : X.calm = true) (hN : X.N.Nodup) (hy : X.N[i]? = some y) (hyl : X.env.scope.names.lookup y = some .local) (hsw : swapsWith (DC2 kx vx tg iter tb ib scope pos) (some (.Name y py)) spos.line X.env = pure true)
    (hi : PI X tg iter (RdI B it)) (ok : BlkOk X.N X.env.scope scope own) (hsl : ∀ i ∈ slots, i ∈ own.map (·.2)) (hsl1 : ∀ i ∈ slots1, i ∈ vs1) (hv : ∀ i ∈ vs1, i ∈ own.map (·.2))
    (hg : ∀ (R : Addr → Prop) (s : Shared) (H : Hp) (C : Addr) (cl : List (Str × Addr)) (fp : List Addr), PG (X.blk s H scope (compEnvC scope cl C X.env) fp) tg (RdG (B.blk R) t slots))
    (hi1 : ∀ (R : Addr → Prop) (s : Shared) (H : Hp) (C : Addr) (cl : List (Str × Addr)) (fp : List Addr), PI (X.blk s H scope (compEnvC scope cl C X.env) fp) tb ib (RdI (B.blk R) it1))
    (hg1 : ∀ (R : Addr → Prop) (s : Shared) (H : Hp) (C : Addr) (cl : List (Str × Addr)) (fp : List Addr), PG (X.blk s H scope (compEnvC scope cl C X.env) fp) tb (RdG (B.blk R) t1 slots1))
    (hk : ∀ (R : Addr → Prop) (s : Shared) (H : Hp) (C : Addr) (cl : List (Str × Addr)) (fp : List Addr), PE (X.blk s H scope (compEnvC scope cl C X.env) fp) kx (RdE (B.blk R) fk))
    (he : ∀ (R : Addr → Prop) (s : Shared) (H : Hp) (C : Addr) (cl : List (Str × Addr)) (fp : List Addr), PE (X.blk s H scope (compEnvC scope cl C X.env) fp) vx (RdE (B.blk R) fv))
    (hs : ∀ x, foldedSetIterable iter X.env x = pure x := by intro _; rfl) (hs1 : ∀ env x, foldedSetIterable ib env x = pure x := by intro _ _; rfl) : PS X (.Assign [.Name y py] (DC2 kx vx tg iter tb ib scope pos) spos) (RdS B (setS i (dc2M (own.map (·.2)) vs1 it t it1 t1 fk fv))) :=
  PS.imp (ps_setDc2 hc hN hy hyl hsw hi ok hv (fun s H C cl fp => x_g fun R => hg R s H C cl fp) (fun s H C cl fp => x_if fun R => hi1 R s H C cl fp) (fun s H C cl fp => x_g fun R => hg1 R s H C cl fp) (fun s H C cl fp => x_e fun R => hk R s H C cl fp) (fun s H C cl fp => x_e fun R => he R s H C cl fp) hs hs1) fun D σ H q => i_dc2 hsl hsl1 hv σ H _ (i_set D σ H q)
end
theorem BOf.tok {G : G0} (h : BOf G B) (hG : ∀ pd, G.tk pd 0 = pd.map V.ref) : B.g.tk 0 = B.g.pd.map V.ref := by
  obtain ⟨pd, e⟩ := h.g
  rw [e]; exact hG pd
end
end L2.Fl

namespace L2.Fl
open PySem PySem.Spec PyProof.Rows

/-! ### the dice of a law, and its rounds: the same text in every law -/
def b_n_law_dice : SM := seqS (ifS (asB (chM ltD ltD (op2 subD (kk (.int 0)) (kk (.int 10))) (bw 0) (kk (.int 10)))) (rtS (frz (lstF (consM (op1 absD (bw 0)) (consM (kk (.int 0)) (consM (kk (.int 2)) (nilM))))))) (skipS))
 (rtS (frz (lstF (consM (vr 0) (consM (op2 addD (kk (.int 1)) (op2 modD (op1 intD (bw 0)) (kk (.int 1009)))) (consM (op1 intD (op2 geD (bw 0) (op2 powD (kk (.int 10)) (kk (.int 18))))) (nilM)))))))
def fM_n_law_dice : FM := runM 1 b_n_law_dice
def b_n_law_roll : SM := seqS (ifS (orT (asB (op2 eqD (diceM 0 2) (kk (.int 2)))) (andT (asB (op2 eqD (diceM 0 2) (kk (.int 1)))) (asB (op2 gtD (diceM 0 0) (kk (.int 0)))))) (seqS (setS 2 (op2 modD (op1 intD (diceM 0 0)) (bw 1)))
 (seqS (diceS 0 0 (op2 fdivD (diceM 0 0) (bw 1)))
 (rtS (vr 2)))) (skipS))
 (seqS (diceS 0 2 (kk (.int 0)))
 (seqS (diceS 0 0 (op2 modD (op1 intD (op2 addD (op2 addD (op2 mulD (diceM 0 0) (kk (.int 48271))) (op2 mulD (diceM 0 1) (kk (.int 69621)))) (kk (.int 11)))) (kk (.int 2147483647))))
 (seqS (diceS 0 1 (op2 addD (diceM 0 1) (kk (.int 1))))
 (rtS (op2 modD (op1 intD (op2 addD (op2 fdivD (diceM 0 0) (kk (.int 7))) (diceM 0 0))) (bw 1))))))
def fM_n_law_roll : FM := runM 3 b_n_law_roll

/-! evaluation -/
@[simp] theorem asB_ok {f : EM D} {ρ ρ' : Fr} {ω ω' : W3} {b : Bool} (h : f ρ ω = .ok (.bl b) ρ' ω') : asB f ρ ω = .ok b ρ' ω' := by unfold asB; rw [h]; rfl
theorem eqd_int (i j : Int) : eqd (.int i) (.int j) = (i == j) := by simp only [eqd]
theorem eqD_int (i j : Int) : eqD (.int i) (.int j) = some (.bl (i == j)) := by simp [eqD, okD, eqd_int]
theorem neD_int (i j : Int) : neD (.int i) (.int j) = some (.bl (!(i == j))) := by simp [neD, okD, eqd_int]
theorem cMul_small {i j : Int} (h : -18446744073709551615 ≤ j) (h2 : j < 18446744073709551615) : cMul i j = true := by
  unfold cMul
  rw [inBd_of (i := j) (by omega) (by omega), Bool.or_true]
theorem cDiv_small {i j : Int} (h : j ≠ 0) (h2 : j.natAbs < 1073741824) : cDiv i j = true := by simp [cDiv, h, h2]
theorem cMod_nz {i j : Int} (h : j ≠ 0) : cMod i j = true := by simp [cMod, h]
theorem fmod_rng (i j : Int) (h : 0 < j) : 0 ≤ i.fmod j ∧ i.fmod j < j := ⟨Int.fmod_nonneg_of_pos i h, Int.fmod_lt_of_pos i h⟩
theorem dice_eval (c : Int) (ω : W3) : ∃ a b d, fM_n_law_dice [.int c] ω = .ok (.lst [.int a, .int b, .int d]) ω := by
  have e1 : (fM_n_law_dice [.int c] ω) = if -10 < c ∧ c < 10 then .ok (.lst [.int (if c < 0 then -c else c), .int 0, .int 2]) ω else .ok (.lst [.int c, .int (1 + c.fmod 1009), .int (if decide (10 ^ 18 ≤ c) then 1 else 0)]) ω := by
    unfold fM_n_law_dice runM b_n_law_dice
    by_cases h1 : -10 < c
    · by_cases h2 : c < 10
      · simp [startF, seqS, ifS, asB, chM, op2, kk, optM, bw, Out.andThen, Out.stm, subD, ltD, iI, iB, rtS, frz, lstF, consM, nilM, op1, absD, SO.andThen, LIM, h1, h2]
      · simp [startF, seqS, ifS, asB, chM, op2, kk, optM, bw, vr, Out.andThen, Out.stm, subD, ltD, addD, modD, geD, powD, iI, iB, iC, cMod, cPow, intD, rtS, frz, lstF, consM, nilM, op1, absD, SO.andThen, LIM, skipS, h1, h2]
    · simp [startF, seqS, ifS, asB, chM, op2, kk, optM, bw, vr, Out.andThen, Out.stm, subD, ltD, addD, modD, geD, powD, iI, iB, iC, cMod, cPow, intD, rtS, frz, lstF, consM, nilM, op1, absD, SO.andThen, LIM, skipS, h1]
  rw [e1]
  split
  · exact ⟨_, _, _, rfl⟩
  · exact ⟨_, _, _, rfl⟩
theorem roll_eval (m : Int) (h0 : 0 < m) (h1 : m < 1073741824) (ω : W3) : ∃ v ω', fM_n_law_roll [.tok 0, .int m] ω = .ok (.int v) ω' ∧ 0 ≤ v ∧ v < m := by
  obtain ⟨a, b, d⟩ := ω
  have hm : m ≠ 0 := by omega
  have hn : m.natAbs < 1073741824 := by omega
  by_cases c : d = 2 ∨ (d = 1 ∧ 0 < a)
  · have e : fM_n_law_roll [.tok 0, .int m] (a, b, d) = .ok (.int (a.fmod m)) (a.fdiv m, b, d) := by
      unfold fM_n_law_roll runM b_n_law_roll
      rcases c with c | ⟨c, c2⟩
      · simp [startF, seqS, ifS, asB, orT, andT, op2, op1, kk, optM, bw, vr, diceM, diceS, w3, w3set, isTok, Out.andThen, Out.stm, eqD_int, gtD, modD, fdivD, mulD, addD, intD, iI, iB, iC, cMod_nz, cDiv_small, hm, hn, setS, rtS, SO.andThen, skipS, c]
      · simp [startF, seqS, ifS, asB, orT, andT, op2, op1, kk, optM, bw, vr, diceM, diceS, w3, w3set, isTok, Out.andThen, Out.stm, eqD_int, gtD, modD, fdivD, mulD, addD, intD, iI, iB, iC, cMod_nz, cDiv_small, hm, hn, setS, rtS, SO.andThen, skipS, c, c2]
    exact ⟨_, _, e, fmod_rng a m h0⟩
  · have c1 : d ≠ 2 := fun z => c (.inl z)
    have c2 : d = 1 → ¬ 0 < a := fun z y => c (.inr ⟨z, y⟩)
    have b1 : (d == 2) = false := by simpa using c1
    have e : fM_n_law_roll [.tok 0, .int m] (a, b, d) = .ok (.int ((((a * 48271 + b * 69621 + 11).fmod 2147483647).fdiv 7 + (a * 48271 + b * 69621 + 11).fmod 2147483647).fmod m)) ((a * 48271 + b * 69621 + 11).fmod 2147483647, b + 1, 0) := by
      unfold fM_n_law_roll runM b_n_law_roll
      by_cases c3 : d = 1
      · simp [startF, seqS, ifS, asB, orT, andT, op2, op1, kk, optM, bw, vr, diceM, diceS, w3, w3set, isTok, Out.andThen, Out.stm, eqD_int, gtD, modD, fdivD, mulD, addD, intD, iI, iB, iC, cMod_nz, cDiv_small, cMul_small, hm, hn, setS, rtS, SO.andThen, skipS, c3, c2 c3]
      · simp [startF, seqS, ifS, asB, orT, andT, op2, op1, kk, optM, bw, vr, diceM, diceS, w3, w3set, isTok, Out.andThen, Out.stm, eqD_int, gtD, modD, fdivD, mulD, addD, intD, iI, iB, iC, cMod_nz, cDiv_small, cMul_small, hm, hn, setS, rtS, SO.andThen, skipS, b1, (show (d == 1) = false by simpa using c3)]
    exact ⟨_, _, e, fmod_rng _ m h0⟩

/-! the rounds -/
def b_rest : SM := seqS (ifS (asB (op2 eqD (bw 2) (frz (lstF (nilM))))) (setS 2 (frz (lstF (consM (kk (.int 0)) (nilM))))) (skipS))
 (rtS (frz (lcM [3] (itM (bw 2)) (nmT 3) (yesT) (callM fM_n_law_dice 1 (consM (vr 3) (nilM))))))
def IsDice (d : D) : Prop := ∃ a b c, d = .lst [.int a, .int b, .int c]
theorem okDs_ints : ∀ (xs : List Int) (n : Nat), okDs (xs.map D.int) n = true
  | [], _ => rfl
  | x :: xs, n => by simp only [List.map_cons, okDs, okD, okDs_ints xs n, Bool.and_self]
theorem comp_dice (m : D) (s : Slot) (c : D) (ω : W3) : ∀ (xs : List Int) (acc : List D), acc.length + xs.length ≤ 64 → ∃ ds, compL [3] (nmT 3) yesT (callM fM_n_law_dice 1 (consM (vr 3) nilM)) (xs.map D.int) acc [s, .val m, .val c, .no] ω = .ok (acc ++ ds) [s, .val m, .val c, .no] ω ∧ (∀ d ∈ ds, IsDice d) ∧ ds.length = xs.length
  | [], acc, _ => ⟨[], by simp [compL], by simp, rfl⟩
  | x :: xs, acc, h => by
    obtain ⟨a, b, d, e⟩ := dice_eval x ω
    have h' : (acc ++ [D.lst [.int a, .int b, .int d]]).length + xs.length ≤ 64 := by simp at h ⊢; omega
    obtain ⟨ds, e2, h2, h3⟩ := comp_dice m s c ω xs (acc ++ [.lst [.int a, .int b, .int d]]) h'
    refine ⟨.lst [.int a, .int b, .int d] :: ds, ?_, ?_, by simp [h3]⟩
    · have hl : acc.length < LIM := by simp at h; unfold LIM; omega
      simp only [List.map_cons, compL, nmT, List.set, yesT, Out.thenB, callM, consM, vr, nilM, Out.andThen, List.getElem?_cons_succ, List.getElem?_cons_zero, List.length_cons, List.length_nil, e, wipeF, hl, if_true]
      simpa using e2
    · intro d' hd
      rcases List.mem_cons.mp hd with rfl | hd
      · exact ⟨_, _, _, rfl⟩
      · exact h2 d' hd
theorem rest_eval (m : Int) (s : Slot) (hs : isOwn (some s) = false) (xs : List Int) (hx : xs.length ≤ 63) (ω : W3) : ∃ ds, b_rest [s, .val (.int m), .val (.lst (xs.map D.int)), .no] ω = .rt (.lst ds) ω ∧ (∀ d ∈ ds, IsDice d) ∧ ds.length ≤ 64 := by
  have hk : okD (.lst (xs.map D.int)) 8 = true := by simp only [okD]; exact okDs_ints _ _
  have key : ∀ ys : List Int, ys.length ≤ 63 → ∃ ds, rtS (frz (lcM [3] (itM (bw 2)) (nmT 3) (yesT) (callM fM_n_law_dice 1 (consM (vr 3) (nilM))))) [s, .val (.int m), .val (.lst (ys.map D.int)), .no] ω = .rt (.lst ds) ω ∧ (∀ d ∈ ds, IsDice d) ∧ ds.length ≤ 64 := fun ys hy => by
    obtain ⟨ds, e, h2, h3⟩ := comp_dice (.int m) s (.lst (ys.map D.int)) ω ys [] (by simp; omega)
    refine ⟨ds, ?_, h2, by omega⟩
    simp only [rtS, frz, lcM, itM, bw, List.getElem?_cons_succ, List.getElem?_cons_zero, Out.andThen, optM, items?, noOwn, List.all_cons, List.all_nil, isOwn, wipeF, List.set, Bool.not_false, Bool.and_self, if_true, e, Out.thenB, Out.stm, List.nil_append]
  cases xs with
  | nil =>
    obtain ⟨ds, e, h⟩ := key [0] (by simp)
    refine ⟨ds, ?_, h⟩
    have e' := e
    simp only [List.map_cons, List.map_nil] at e'
    simp [b_rest, seqS, ifS, asB, op2, bw, kk, frz, lstF, nilM, consM, setS, Out.andThen, Out.stm, optM, eqD, okD, okDs, eqd, eqds, LIM, SO.andThen]
    exact e'
  | cons x xs =>
    obtain ⟨ds, e, h⟩ := key (x :: xs) hx
    refine ⟨ds, ?_, h⟩
    have e1 : eqD (.lst ((x :: xs).map D.int)) (.lst []) = some (.bl false) := by
      unfold eqD
      rw [hk]
      simp [okD, okDs, eqd, eqds]
    have e2 : b_rest [s, .val (.int m), .val (.lst ((x :: xs).map D.int)), .no] ω = rtS (frz (lcM [3] (itM (bw 2)) (nmT 3) (yesT) (callM fM_n_law_dice 1 (consM (vr 3) (nilM))))) [s, .val (.int m), .val (.lst ((x :: xs).map D.int)), .no] ω := by
      simp only [b_rest, seqS, ifS, asB, op2, bw, frz, lstF, nilM, Out.andThen, List.getElem?_cons_succ, List.getElem?_cons_zero, optM, e1, List.length_nil, Nat.zero_le, if_true, Out.stm, skipS, SO.andThen]
    rw [e2]; exact e
/-- what the rounds' call leaves -/
def RoundsAt (T : List PTab) (v : V) (H' : Hp) : Prop := (∀ P ∈ T, TabP H' P) ∧ ∃ p vs, v = .ref p ∧ H' p = some (.lst vs) ∧ ∀ x ∈ vs, ∃ (q : Addr) (a b d : Int), x = .ref q ∧ H' q = some (.lst [.int a, .int b, .int d])
def spRounds (K : PySem.W.Frag) (T : List PTab) : Sp := fun vs H Q _ => ∃ (a : Addr) (ns : List Int) (m : Int), vs = [.ref a, .int m] ∧ SqL K H a (ns.map V.int) ∧ ns.length ≤ 63 ∧ (∀ P ∈ T, TabP H P) ∧ ∀ v H', RoundsAt T v H' → Q v H'
def sliceT (K : PySem.W.Frag) : TS := tAsg (tSl (rSlL K) (tVar 0) tNoPart (tPart (tVar 1))) (gName 2)
theorem cutV_ints (ns : List Int) (lo hi : Option Int) : ∃ cs : List Int, cutV (ns.map V.int) lo hi = cs.map V.int ∧ cs.length ≤ ns.length := by
  refine ⟨(ns.drop (HT.sIx ns.length 0 lo)).take (HT.sIx ns.length ns.length hi - HT.sIx ns.length 0 lo), ?_, by simp; omega⟩
  unfold cutV
  rw [List.length_map, ← List.map_drop, ← List.map_take]
theorem RD.lstI {tk : Nat → Option V} {Z : Addr → Prop} {H : Hp} {ds : List D} {v : V} (r : RD tk Z H (.lst ds) v) : ∃ p vs, v = .ref p ∧ H p = some (.lst vs) ∧ RDs tk Z H ds vs := by
  cases r with
  | obj z ro =>
    cases ro with
    | lst h r => exact ⟨_, _, rfl, h, r⟩
theorem RDs.mem {tk : Nat → Option V} {Z : Addr → Prop} {H : Hp} : ∀ {ds : List D} {vs : List V} {x : V}, RDs tk Z H ds vs → x ∈ vs → ∃ d ∈ ds, RD tk Z H d x
  | _, _, _, .nil, h => by cases h
  | _, _, _, .cons r t, h => by
    rcases List.mem_cons.mp h with rfl | h
    · exact ⟨_, List.mem_cons_self, r⟩
    · obtain ⟨d, h1, h2⟩ := t.mem h
      exact ⟨d, List.mem_cons_of_mem _ h1, h2⟩
section
variable {P : Program} {w : World} {K : PySem.W.Frag} {mg : Str → Option Value} {base : Heap} {G : G0}
theorem rounds_ok {x qual : Str} {st : Stmt} {f : Addr} {fd : FuncData} {cv : Value} {N ps : List Str} {k : Nat} (F : FunC K x qual st f fd cv) (S : FnScope N ps (defScope st)) (hN : N.length = 4) (hps : ps.length = 2)
    (hT : ∀ (A : Around) (outer : List Env) (sh : Shared) (H : Hp) (B : Bc), BOf G B → B.Rz = (fun _ => False) → Room k (A.deeper (envOfC qual (defScope st) sh.heap.objs.size f cv)) →
      PSs (cxOf (CX P w) P w K mg base N qual (defScope st) f cv A outer sh H B.E) (defBody st) (tSeq (sliceT K) (RdS B b_rest))) :
    FnOk P w K mg base (CX P w) (k + 1) f fd ps (spRounds K G.T) := by
  refine F.okX S (fun vs H Q E h => ?_) (fun A outer sh H vs Q E hr h => ?_)
  · obtain ⟨a, ns, m, rfl, _⟩ := h
    rw [hps]; rfl
  · obtain ⟨a, ns, m, rfl, hS, hl, hT0, hq⟩ := h
    let B : Bc := { g := G.at none, H0 := H, Z0 := fun _ => False, cls := G.cls, Ex := fun _ _ => False, E := E, Rz := fun _ => False, hE := fun _ _ _ _ _ z => z.elim }
    refine ⟨_, hT A outer sh H B ⟨⟨none, rfl⟩, rfl⟩ rfl hr, ?_⟩
    have es : start N [V.ref a, .int m] = [some (.ref a), some (.int m), none, none] := by
      unfold start
      rw [hN]; rfl
    rw [es]
    refine ⟨.ref a, rfl, .int m, rfl, m, rfl, a, _, rfl, hS, fun p hp => ?_⟩
    obtain ⟨cs, ec, lc⟩ := cutV_ints ns none (some m)
    rw [ec]
    show RdS B b_rest _ _ _
    have good0 : Good (G.at none) (fun _ => False) H (0, 0, 0) := ⟨fun _ z => z.elim, fun q e => (nomatch e), hT0⟩
    have gr : Grow (G.at none) (fun _ => False) H (fun q => False ∨ q = p) (upd H p (.lst (cs.map V.int))) := grow_new hp fix_lst
    obtain ⟨ds, e1, e2, e3⟩ := rest_eval m .no rfl cs (by omega) (0, 0, 0)
    refine ⟨fun q => False ∨ q = p, [.no, .val (.int m), .val (.lst (cs.map D.int)), .no], (0, 0, 0), ⟨good0.grow gr, gr.ext, fun _ z => z.elim, fun q z => ?_, rfl, fun i d e => ?_, fun i d e => ?_, fun _ z => z.elim, fun i j d e q h1 => ?_⟩, ?_⟩
    · rcases z with z | rfl
      · exact z.elim
      · exact .inr hp
    · match i, e with
      | 0, e => cases e
      | 1, e => cases e; exact ⟨_, rfl, .int m⟩
      | 2, e => cases e; exact ⟨_, rfl, .obj (.inr rfl) (.lst upd_same (rds_ints cs))⟩
      | 3, e => cases e
      | i + 4, e => simp at e
    · match i, e with
      | 0, e => cases e
      | 1, e => cases e
      | 2, e => cases e
      | 3, e => cases e
      | i + 4, e => simp at e
    · match i, h1 with
      | 0, e => cases e
      | 1, e => cases e
      | 2, e => cases e
      | 3, e => cases e
      | i + 4, e => simp at e
    · rw [e1]
      intro Z' ρ' σ' v H' j rd
      refine hq v H' ⟨j.good.tabs, ?_⟩
      obtain ⟨q, vs, rfl, hv, rs⟩ := rd.lstI
      refine ⟨q, vs, rfl, hv, fun x hx => ?_⟩
      obtain ⟨d, hd, rx⟩ := rs.mem hx
      obtain ⟨a, b, c, rfl⟩ := e2 d hd
      obtain ⟨q2, vs2, rfl, hv2, rs2⟩ := rx.lstI
      refine ⟨q2, a, b, c, rfl, ?_⟩
      rcases (RDs.ints (is := [a, b, c]) rs2) with e | e
      · rw [hv2, e]; rfl
      · exact e.elim

/-! the law itself -/
def spLaw (K : PySem.W.Frag) (T : List PTab) : Sp := fun vs H Q _ => ∃ (a : Addr) (ns : List Int), vs = [.ref a] ∧ SqL K H a (ns.map V.int) ∧ ns.length ≤ 63 ∧ (∀ P ∈ T, TabP H P) ∧ ∀ H', Q (.bl true) H'
/-- a turn of the law's loop, whatever the dice -/
def turnF (n d : Nat) : Fr := (List.replicate n Slot.no).set d (.val (.tok 0))
def TurnOk (n d : Nat) (s : SM) : Prop := ∀ ω, (∃ ρ ω', s (turnF n d) ω = .nx ρ ω' ∧ ρ.length = n) ∨ ∃ ρ ω', s (turnF n d) ω = .ct ρ ω' ∧ ρ.length = n
/-- the body's reading, for some ground -/
def ExS (G : G0) (E : XK) (s : SM) : TS := fun D σ H => ∃ B, BOf G B ∧ B.E = E ∧ B.Rz = (fun _ => False) ∧ RdS B s D σ H
theorem law_ok {x qual : Str} {st : Stmt} {f : Addr} {fd : FuncData} {cv : Value} {N ps : List Str} {k d : Nat} {m : Int} {s : SM} (F : FunC K x qual st f fd cv) (S : FnScope N ps (defScope st)) (hps : ps.length = 1) (hd0 : 0 < d) (hdN : d < N.length) (hG : ∀ pd, G.tk pd 0 = pd.map V.ref)
    (hT : ∀ (A : Around) (outer : List Env) (sh : Shared) (H : Hp) (E : XK), Room k (A.deeper (envOfC qual (defScope st) sh.heap.objs.size f cv)) →
      PSs (cxOf (CX P w) P w K mg base N qual (defScope st) f cv A outer sh H E) (defBody st) (tSeq (tFor (iList K (tCall (spRounds K G.T) [] E (tCons (tVar 0) (tCons (tC (.int m)) tNil)))) (gName d) (ExS G E s)) (tRet (tC (.bl true)))))
    (ok : TurnOk N.length d s) : FnOk P w K mg base (CX P w) (k + 1) f fd ps (spLaw K G.T) := by
  refine F.okX S (fun vs H Q E h => ?_) (fun A outer sh H vs Q E hr h => ?_)
  · obtain ⟨a, ns, rfl, _⟩ := h
    rw [hps]; rfl
  · obtain ⟨a, ns, rfl, hS, hl, hT0, hq⟩ := h
    refine ⟨_, hT A outer sh H E hr, ?_⟩
    have h0 : (start N [V.ref a])[0]? = some (some (.ref a)) := by
      unfold start; rfl
    have hlen : (start N [V.ref a]).length = N.length := start_len N _ (by simp; omega)
    refine ⟨_, h0, a, ns, m, rfl, hS, hl, hT0, fun v H1 hR => ?_⟩
    obtain ⟨hT1, p, vs, rfl, hp, hd⟩ := hR
    refine ⟨p, rfl, ⟨_, SqL.of hp⟩, for_list (K := K) (a := p) (xs := vs) (fun i σ H2 => σ.length = N.length ∧ H2 p = some (.lst vs) ∧ (∀ P ∈ G.T, TabP H2 P) ∧ ∀ x ∈ vs, ∃ (q : Addr) (a b d : Int), x = .ref q ∧ H2 q = some (.lst [.int a, .int b, .int d])) ⟨hlen, hp, hT1, hd⟩ (fun i σ H2 _ h => SqL.of h.2.1) ?_ ?_⟩
    · rintro i y σ H2 hi ⟨hl2, hp2, hT2, hd2⟩
      obtain ⟨q, a1, b1, c1, rfl, hq2⟩ := hd2 y (List.mem_of_getElem? hi)
      have npq : p ≠ q := by
        rintro rfl
        rw [hp2] at hq2
        cases hq2
        obtain ⟨q', _, _, _, e, _⟩ := hd2 (.int a1) List.mem_cons_self
        cases e
      let B : Bc := { g := G.at (some q), H0 := H2, Z0 := fun _ => False, cls := G.cls, Ex := fun _ _ => False, E := E, Rz := fun _ => False, hE := fun _ _ _ _ _ z => z.elim }
      have good : Good B.g (fun _ => False) H2 (a1, b1, c1) := ⟨fun _ z => z.elim, fun q' e => (by cases e; exact hq2), hT2⟩
      have fr : ∀ (k : Nat) (x : Slot), (turnF N.length d)[k]? = some x → (k = d ∧ x = .val (.tok 0)) ∨ x = .no := fun k x e => by
        unfold turnF at e
        by_cases hk : d = k
        · subst hk
          rw [List.getElem?_set_self (by simpa using hdN)] at e
          exact .inl ⟨rfl, (Option.some.inj e).symm⟩
        · rw [List.getElem?_set_ne hk, List.getElem?_replicate] at e
          split at e
          · exact .inr (Option.some.inj e).symm
          · cases e
      have j : J B (fun _ => False) (turnF N.length d) (σ.set d (some (.ref q))) H2 (a1, b1, c1) := by
        refine ⟨good, .refl, fun _ z => z.elim, fun _ z => z.elim, by simp [turnF, hl2], fun k dd e => ?_, fun k dd e => ?_, fun _ z => z.elim, fun k l dd e q h1 => ?_⟩
        · rcases fr k _ e with ⟨e1, e2⟩ | e2
          · cases e2
            rw [e1]
            refine ⟨.ref q, ?_, .tok (by show G.tk (some q) 0 = _; rw [hG]; rfl)⟩
            rw [List.getElem?_set_self (by rw [hl2]; exact hdN)]
          · cases e2
        · rcases fr k _ e with ⟨_, e⟩ | e <;> cases e
        · rcases fr k _ h1 with ⟨_, e⟩ | e <;> cases e
      have fin : ∀ (Z' : Addr → Prop) (ρ : Fr) (ω' : W3) (σ' : St) (H3 : Hp), J B Z' ρ σ' H3 ω' → ρ.length = N.length → σ'.length = N.length ∧ H3 p = some (.lst vs) ∧ (∀ P ∈ G.T, TabP H3 P) ∧ ∀ x ∈ vs, ∃ (q : Addr) (a b d : Int), x = .ref q ∧ H3 q = some (.lst [.int a, .int b, .int d]) := fun Z' ρ ω' σ' H3 j' l' => by
        refine ⟨by rw [← j'.len]; exact l', j'.ext.keep p _ hp2 (fun e => npq (Option.some.inj e).symm) fix_lst, j'.good.tabs, fun x hx => ?_⟩
        obtain ⟨q', a2, b2, c2, rfl, hq'⟩ := hd2 x hx
        by_cases e : q' = q
        · subst e
          exact ⟨q', _, _, _, rfl, j'.good.dice q' rfl⟩
        · exact ⟨q', a2, b2, c2, rfl, j'.ext.keep q' _ hq' (fun z => e (Option.some.inj z).symm) fix_lst⟩
      refine ⟨B, ⟨⟨some q, rfl⟩, rfl⟩, rfl, rfl, _, _, _, j, ?_⟩
      rcases ok (a1, b1, c1) with ⟨ρ, ω', e, l⟩ | ⟨ρ, ω', e, l⟩
      · rw [e]
        exact fun Z' σ' H3 _ j' => fin Z' ρ ω' σ' H3 j' l
      · rw [e]
        exact fun Z' σ' H3 _ j' => fin Z' ρ ω' σ' H3 j' l
    · rintro σ H2 _
      exact hq H2
theorem x_s {N : List Str} {qual : Str} {scope : Scope} {f : Addr} {cd : Value} {A : Around} {outer : List Env} {sh : Shared} {H : Hp} {E : XK} {body : List Stmt} {s : SM}
    (h : ∀ B : Bc, BOf G B → B.Rz = (fun _ => False) → PSs (cxOf (CX P w) P w K mg base N qual scope f cd A outer sh H B.E) body (RdS B s)) : PSs (cxOf (CX P w) P w K mg base N qual scope f cd A outer sh H E) body (ExS G E s) :=
  ⟨fun pins s σ H D I ⟨B, hB, hE, hz, q⟩ => by
    subst hE
    exact (h B hB hz).run pins s σ H D I q⟩
def KnR (P : Program) (w : World) (K : PySem.W.Frag) (mg : Str → Option Value) (base : Heap) (G : G0) (x : Str) (k : Nat) : Prop :=
  ∃ (f : Addr) (fd : FuncData) (ps : List Str), FnOk P w K mg base (CX P w) k f fd ps (spRounds K G.T) ∧ mg x = some (.ref f) ∧ PySem.W.keepIn K (.ref f) = true ∧ Binds K fd ps []
theorem mkKnR {x : Str} {f : Addr} {fd : FuncData} {ps : List Str} {k : Nat} (h : FnOk P w K mg base (CX P w) k f fd ps (spRounds K G.T)) (hm : mg x = some (.ref f)) (hk : PySem.W.keepIn K (.ref f) = true) (hb : Binds K fd ps []) : KnR P w K mg base G x k := ⟨f, fd, ps, h, hm, hk, hb⟩
end
theorem hCX0 {P : Program} : ∀ (w : World) (H : Hp) (s : Shared) (e : Value) (s' : Shared), L2.CX P w [] H s (fun _ _ _ => False) e s' → False := fun _ _ _ _ _ h => by
  obtain ⟨_, _, _, _, _, _, _, _, _, _, _, _, z⟩ := h
  exact z.elim
section
variable {X : Cx} {G : G0} {E : XK} {e : Expr} {es : List Expr} {x : Str} {p pos : Pos} {ta : TA}
theorem m_rounds {k j : Nat} (kn : KnR X.prog X.w X.K X.mg X.base G x j) (hr : Room k X.A) (hk : j ≤ k) (hg : Gl X x) (hx : Passes (CX X.prog X.w) X E) (ha : PA X (e :: es) ta)
    (hdb : (x == ("__debug__" : Str)) = false := by decide) (he : starEach (e :: es) X.env = (false, eval e X.env) :: starEach es X.env := by rfl) (hpl : (backTo pos (starEach es X.env)).any (·.1) = false := by rfl) :
    PE X (.Call (.Name x p) (e :: es) [] pos) (tCall (spRounds X.K G.T) [] E ta) := by
  obtain ⟨f, fd, ps, F, hm, hkp, hb⟩ := kn
  exact pe_call F (hr.mono hk) hg hm hkp hb .nil hx ha hdb he hpl
end
end L2.Fl

namespace L2.Fl
open PySem PySem.Spec PyProof.Rows

/-! ### evaluation of mirrors -/
theorem forS_inv {t : TM} {s : SM} (I : Nat → Fr → W3 → Prop) : ∀ (ds : List D) (i : Nat) (ρ : Fr) (ω : W3), I i ρ ω →
    (∀ k d ρ ω, ds[k]? = some d → I (i + k) ρ ω → ∃ ρ1 ρ2 ω2, t d ρ = some ρ1 ∧ (s ρ1 ω = .nx ρ2 ω2 ∨ s ρ1 ω = .ct ρ2 ω2) ∧ I (i + k + 1) ρ2 ω2) →
    ∃ ρ' ω', forS t s ds ρ ω = .nx ρ' ω' ∧ I (i + ds.length) ρ' ω'
  | [], i, ρ, ω, h, _ => ⟨ρ, ω, rfl, h⟩
  | d :: ds, i, ρ, ω, h, hs => by
    obtain ⟨ρ1, ρ2, ω2, e1, e2, h2⟩ := hs 0 d ρ ω rfl h
    obtain ⟨ρ', ω', e3, h3⟩ := forS_inv I ds (i + 1) ρ2 ω2 (by simpa using h2) (fun k d' ρ ω hk hI => by
      have e : i + 1 + k = i + (k + 1) := by omega
      rw [e] at hI ⊢
      exact hs (k + 1) d' ρ ω (by simpa using hk) hI)
    refine ⟨ρ', ω', ?_, by have e : i + (d :: ds).length = i + 1 + ds.length := by simp; omega
                           rw [e]; exact h3⟩
    unfold forS
    rw [e1]
    rcases e2 with e2 | e2 <;> simp only [e2, e3]
/-- a loop that may return before its end -/
theorem forS_ret {t : TM} {s : SM} (I : Nat → Fr → W3 → Prop) (R : SO → Prop) : ∀ (ds : List D) (i : Nat) (ρ : Fr) (ω : W3), I i ρ ω →
    (∀ k d ρ ω, ds[k]? = some d → I (i + k) ρ ω → ∃ ρ1, t d ρ = some ρ1 ∧ ((∃ ρ2 ω2, (s ρ1 ω = .nx ρ2 ω2 ∨ s ρ1 ω = .ct ρ2 ω2) ∧ I (i + k + 1) ρ2 ω2) ∨ (∃ x ω2, s ρ1 ω = .rt x ω2 ∧ R (.rt x ω2)))) →
    (∀ ρ ω, I (i + ds.length) ρ ω → R (.nx ρ ω)) → R (forS t s ds ρ ω)
  | [], i, ρ, ω, h, _, h2 => h2 ρ ω h
  | d :: ds, i, ρ, ω, h, hs, hR => by
    obtain ⟨ρ1, e1, q⟩ := hs 0 d ρ ω rfl h
    unfold forS
    rw [e1]
    rcases q with ⟨ρ2, ω2, e2, h2⟩ | ⟨x, ω2, e2, h2⟩
    · have := forS_ret I R ds (i + 1) ρ2 ω2 (by simpa using h2) (fun k d' ρ ω hk hI => by
        have e : i + 1 + k = i + (k + 1) := by omega
        rw [e] at hI ⊢
        exact hs (k + 1) d' ρ ω (by simpa using hk) hI) (fun ρ ω hI => hR ρ ω (by
          have e : i + (d :: ds).length = i + 1 + ds.length := by simp; omega
          rw [e]; exact hI))
      rcases e2 with e2 | e2 <;> simp only [e2] <;> exact this
    · simp only [e2]; exact h2
/-- a comprehension whose elements do nothing else -/
theorem compL_map {vs : List Nat} {t : TM} {tt : EM Bool} {te : EM D} {ρ : Fr} {ω : W3} (g : D → Option D) : ∀ (ds acc : List D),
    (∀ d ∈ ds, ∃ ρ1 ρ2, t d ρ = some ρ1 ∧ ((g d = none ∧ tt ρ1 ω = .ok false ρ2 ω ∧ wipeF vs ρ2 = ρ) ∨ ∃ x ρ3, g d = some x ∧ tt ρ1 ω = .ok true ρ2 ω ∧ te ρ2 ω = .ok x ρ3 ω ∧ wipeF vs ρ3 = ρ)) →
    acc.length + ds.length ≤ LIM → compL vs t tt te ds acc ρ ω = .ok (acc ++ ds.filterMap g) ρ ω
  | [], acc, _, _ => by simp [compL]
  | d :: ds, acc, h, hl => by
    obtain ⟨ρ1, ρ2, e1, q⟩ := h d List.mem_cons_self
    unfold compL
    rw [e1]
    rcases q with ⟨g1, e2, e3⟩ | ⟨x, ρ3, g1, e2, e3, e4⟩
    · simp only [e2, Out.thenB, e3, List.filterMap_cons, g1]
      exact compL_map g ds acc (fun d' hd => h d' (List.mem_cons_of_mem _ hd)) (by simp at hl; omega)
    · have hlt : acc.length < LIM := by simp at hl; omega
      simp only [e2, Out.thenB, e3, hlt, if_true, e4, List.filterMap_cons, g1]
      have := compL_map (vs := vs) (t := t) (tt := tt) (te := te) (ρ := ρ) (ω := ω) g ds (acc ++ [x]) (fun d' hd => h d' (List.mem_cons_of_mem _ hd)) (by simp at hl ⊢; omega)
      rw [this, List.append_assoc]; rfl
/-- a comprehension that draws: each element is some value with the property p -/
theorem compL_roll {vs : List Nat} {t : TM} {te : EM D} {ρ : Fr} (p : D → Prop) : ∀ (ds acc : List D) (ω : W3),
    (∀ d ∈ ds, ∀ ω, ∃ ρ1, t d ρ = some ρ1 ∧ ∃ x ρ3 ω3, te ρ1 ω = .ok x ρ3 ω3 ∧ p x ∧ wipeF vs ρ3 = ρ) →
    acc.length + ds.length ≤ LIM → ∃ xs ω', compL vs t yesT te ds acc ρ ω = .ok (acc ++ xs) ρ ω' ∧ (∀ x ∈ xs, p x) ∧ xs.length = ds.length
  | [], acc, ω, _, _ => ⟨[], ω, by simp [compL], by simp, rfl⟩
  | d :: ds, acc, ω, h, hl => by
    obtain ⟨ρ1, e1, x, ρ3, ω3, e3, hp, e4⟩ := h d List.mem_cons_self ω
    have hlt : acc.length < LIM := by simp at hl; omega
    obtain ⟨xs, ω', e5, h5, h6⟩ := compL_roll p ds (acc ++ [x]) ω3 (fun d' hd => h d' (List.mem_cons_of_mem _ hd)) (by simp at hl ⊢; omega)
    refine ⟨x :: xs, ω', ?_, ?_, by simp [h6]⟩
    · unfold compL
      simp only [e1, yesT, Out.thenB, e3, hlt, if_true, e4, e5, List.append_assoc]; rfl
    · intro y hy
      rcases List.mem_cons.mp hy with rfl | hy
      · exact hp
      · exact h5 y hy
theorem subD_i (i j : Int) : subD (.int i) (.int j) = some (.int (i - j)) := rfl
theorem addD_i (i j : Int) : addD (.int i) (.int j) = some (.int (i + j)) := rfl
theorem ltD_i (i j : Int) : ltD (.int i) (.int j) = some (.bl (decide (i < j))) := rfl
theorem leD_i (i j : Int) : leD (.int i) (.int j) = some (.bl (decide (i ≤ j))) := rfl
theorem gtD_i (i j : Int) : gtD (.int i) (.int j) = some (.bl (decide (j < i))) := rfl
theorem geD_i (i j : Int) : geD (.int i) (.int j) = some (.bl (decide (j ≤ i))) := rfl
theorem min2D_i (i j : Int) : min2D (.int i) (.int j) = some (.int (if j < i then j else i)) := rfl
theorem max2D_i (i j : Int) : max2D (.int i) (.int j) = some (.int (if j > i then j else i)) := rfl
theorem mulD_i {i j : Int} (h : cMul i j = true) : mulD (.int i) (.int j) = some (.int (i * j)) := by show (if cMul i j = true then _ else _) = _; rw [if_pos h]
theorem modD_i {i j : Int} (h : cMod i j = true) : modD (.int i) (.int j) = some (.int (i.fmod j)) := by show (if cMod i j = true then _ else _) = _; rw [if_pos h]
theorem fdivD_i {i j : Int} (h : cDiv i j = true) : fdivD (.int i) (.int j) = some (.int (i.fdiv j)) := by show (if cDiv i j = true then _ else _) = _; rw [if_pos h]
theorem negD_i (i : Int) : negD (.int i) = some (.int (-i)) := rfl
theorem runM_rt {n : Nat} {s : SM} {ds : List D} {ω ω' : W3} {d : D} (h : s (startF n ds) ω = .rt d ω') : runM n s ds ω = .ok d ω' := by unfold runM; rw [h]
theorem runM_nx {n : Nat} {s : SM} {ds : List D} {ω ω' : W3} {ρ : Fr} (h : s (startF n ds) ω = .nx ρ ω') : runM n s ds ω = .ok .non ω' := by unfold runM; rw [h]
theorem runM_exc {n : Nat} {s : SM} {ds : List D} {ω ω' : W3} {c : Nat} (h : s (startF n ds) ω = .exc c ω') : runM n s ds ω = .exc c ω' := by unfold runM; rw [h]
section
variable {s u : SM} {ρ ρ' ρ'' : Fr} {ω ω' ω'' : W3} {f g : EM D} {t : EM Bool} {d x y : D} {i k c : Nat} {fl : EM (List D)} {ds : List D} {tm : TM}
theorem seqS_nx (h : s ρ ω = .nx ρ' ω') : seqS s u ρ ω = u ρ' ω' := by unfold seqS; rw [h]; rfl
theorem seqS_rt (h : s ρ ω = .rt d ω') : seqS s u ρ ω = .rt d ω' := by unfold seqS; rw [h]; rfl
theorem seqS_exc (h : s ρ ω = .exc c ω') : seqS s u ρ ω = .exc c ω' := by unfold seqS; rw [h]; rfl
theorem seqS_ct (h : s ρ ω = .ct ρ' ω') : seqS s u ρ ω = .ct ρ' ω' := by unfold seqS; rw [h]; rfl
theorem seqS_bk (h : s ρ ω = .bk ρ' ω') : seqS s u ρ ω = .bk ρ' ω' := by unfold seqS; rw [h]; rfl
theorem setS_ok (h : f ρ ω = .ok d ρ' ω') : setS i f ρ ω = .nx (ρ'.set i (.val d)) ω' := by unfold setS; rw [h]; rfl
theorem ownS_ok (h : fl ρ ω = .ok ds ρ' ω') : ownS i fl ρ ω = .nx (ρ'.set i (.own (.lst ds))) ω' := by unfold ownS; rw [h]; rfl
theorem setS_exc (h : f ρ ω = .exc c ω') : setS i f ρ ω = .exc c ω' := by unfold setS; rw [h]; rfl
theorem ifS_t (h : t ρ ω = .ok true ρ' ω') : ifS t s u ρ ω = s ρ' ω' := by unfold ifS; rw [h]; rfl
theorem ifS_f (h : t ρ ω = .ok false ρ' ω') : ifS t s u ρ ω = u ρ' ω' := by unfold ifS; rw [h]; rfl
theorem rtS_ok (h : f ρ ω = .ok d ρ' ω') : rtS f ρ ω = .rt d ω' := by unfold rtS; rw [h]; rfl
theorem rtS_exc (h : f ρ ω = .exc c ω') : rtS f ρ ω = .exc c ω' := by unfold rtS; rw [h]; rfl
theorem exS_ok (h : f ρ ω = .ok d ρ' ω') : exS f ρ ω = .nx ρ' ω' := by unfold exS; rw [h]; rfl
theorem forM_ok (h : fl ρ ω = .ok ds ρ' ω') : forM fl tm s ρ ω = forS tm s ds ρ' ω' := by unfold forM; rw [h]; rfl
theorem asgS_ok (h : f ρ ω = .ok d ρ' ω') (h2 : tm d ρ' = some ρ'') : asgS tm f ρ ω = .nx ρ'' ω' := by unfold asgS; rw [h]; simp only [Out.stm, h2]
theorem parS_ok (h : fl ρ ω = .ok [x, y] ρ' ω') : parS i k fl ρ ω = .nx ((ρ'.set i (.val x)).set k (.val y)) ω' := by unfold parS; rw [h]; rfl
theorem appS_ok (h0 : ρ[i]? = some (.own (.lst ds))) (h : f ρ ω = .ok d ρ' ω') (h1 : ρ'[i]? = some (.own (.lst ds))) (hl : ds.length < LIM) : appS i f ρ ω = .nx (ρ'.set i (.own (.lst (ds ++ [d])))) ω' := by
  unfold appS
  rw [h0, h]
  simp only [Out.stm, h1, hl, if_true]
theorem skipS_eq : skipS ρ ω = .nx ρ ω := rfl
theorem raS_eq : raS c ρ ω = .exc c ω := rfl
theorem forS_nil : forS tm s [] ρ ω = .nx ρ ω := rfl
theorem forS_nx (h : tm d ρ = some ρ') (h2 : s ρ' ω = .nx ρ'' ω'') : forS tm s (d :: ds) ρ ω = forS tm s ds ρ'' ω'' := by simp only [forS, h, h2]
theorem forS_ct (h : tm d ρ = some ρ') (h2 : s ρ' ω = .ct ρ'' ω'') : forS tm s (d :: ds) ρ ω = forS tm s ds ρ'' ω'' := by simp only [forS, h, h2]
theorem forS_bk (h : tm d ρ = some ρ') (h2 : s ρ' ω = .bk ρ'' ω'') : forS tm s (d :: ds) ρ ω = .nx ρ'' ω'' := by simp only [forS, h, h2]
theorem forS_rt (h : tm d ρ = some ρ') (h2 : s ρ' ω = .rt x ω'') : forS tm s (d :: ds) ρ ω = .rt x ω'' := by simp only [forS, h, h2]
theorem forS_exc (h : tm d ρ = some ρ') (h2 : s ρ' ω = .exc c ω'') : forS tm s (d :: ds) ρ ω = .exc c ω'' := by simp only [forS, h, h2]
theorem whileS_f {n : Nat} (h : t ρ ω = .ok false ρ' ω') : whileS t s (n + 1) ρ ω = .nx ρ' ω' := by simp only [whileS, h, Out.stm]
theorem whileS_t {n : Nat} (h : t ρ ω = .ok true ρ' ω') (h2 : s ρ' ω' = .nx ρ'' ω'') : whileS t s (n + 1) ρ ω = whileS t s n ρ'' ω'' := by simp only [whileS, h, Out.stm, h2]
theorem callM_ok {fM : FM} {n : Nat} {xs : List D} (h : fl ρ ω = .ok xs ρ' ω') (hn : xs.length = n) (h2 : fM xs ω' = .ok d ω'') : callM fM n fl ρ ω = .ok d ρ' ω'' := by unfold callM; rw [h]; simp only [Out.andThen, hn, if_true, h2]
theorem callM_exc {fM : FM} {n : Nat} {xs : List D} (h : fl ρ ω = .ok xs ρ' ω') (hn : xs.length = n) (h2 : fM xs ω' = .exc c ω'') : callM fM n fl ρ ω = .exc c ω'' := by unfold callM; rw [h]; simp only [Out.andThen, hn, if_true, h2]
theorem consM_ok (h1 : f ρ ω = .ok d ρ' ω') (h2 : fl ρ' ω' = .ok ds ρ'' ω'') : consM f fl ρ ω = .ok (d :: ds) ρ'' ω'' := by unfold consM; rw [h1]; simp only [Out.andThen, h2]
theorem nilM_eq : nilM ρ ω = .ok [] ρ ω := rfl
theorem tupM_ok (h : fl ρ ω = .ok ds ρ' ω') (hl : ds.length ≤ LIM) : tupM fl ρ ω = .ok (.tup ds) ρ' ω' := by unfold tupM; rw [h]; simp only [Out.andThen, hl, if_true]
theorem lstF_ok (h : fl ρ ω = .ok ds ρ' ω') (hl : ds.length ≤ LIM) : lstF fl ρ ω = .ok ds ρ' ω' := by unfold lstF; rw [h]; simp only [Out.andThen, hl, if_true]
theorem lim2 {n : Nat} (h : n ≤ 1000) : n ≤ LIM := by unfold LIM; omega
theorem frz_ok (h : fl ρ ω = .ok ds ρ' ω') : frz fl ρ ω = .ok (.lst ds) ρ' ω' := by unfold frz; rw [h]; rfl
theorem lcM_ok {vs : List Nat} {it : EM (List D)} {tt : EM Bool} {te : EM D} {xs : List D} (h : it ρ ω = .ok ds ρ' ω') (hn : noOwn vs ρ' = true) (hc : compL vs tm tt te ds [] (wipeF vs ρ') ω' = .ok xs ρ'' ω'') : lcM vs it tm tt te ρ ω = .ok xs (restF vs ρ' ρ'') ω'' := by
  unfold lcM
  rw [h]
  simp only [Out.andThen, hn, if_true, hc, Out.thenB]
end
/-! whole numbers in lists -/
abbrev L (xs : List Int) : D := .lst (xs.map D.int)
abbrev TU (xs : List Int) : D := .tup (xs.map D.int)
def at' (xs : List Int) (k : Int) : Int := xs.getD k.toNat 0
theorem ixD_L {xs : List Int} {k : Int} (h0 : 0 ≤ k) (h1 : k < xs.length) : ixD (L xs) (.int k) = some (.int (at' xs k)) := by
  have hk : k.toNat < xs.length := by omega
  unfold ixD items? atI ixN at'
  simp only [List.length_map]
  rw [if_pos h0, if_pos (by omega)]
  simp [hk]
theorem ixD_T {xs : List Int} {k : Int} (h0 : 0 ≤ k) (h1 : k < xs.length) : ixD (TU xs) (.int k) = some (.int (at' xs k)) := by
  have hk : k.toNat < xs.length := by omega
  unfold ixD items? atI ixN at'
  simp only [List.length_map]
  rw [if_pos h0, if_pos (by omega)]
  simp [hk]
theorem ixD_at {xs : List D} {a : D} {k : Int} {d : D} (hi : items? a = some xs) (h0 : 0 ≤ k) (h1 : xs[k.toNat]? = some d) : ixD a (.int k) = some d := by
  have hk : k.toNat < xs.length := (List.getElem?_eq_some_iff.mp h1).1
  unfold ixD atI ixN
  rw [hi]
  simp only
  rw [if_pos h0, if_pos (by omega)]
  simpa using h1
theorem ixD_neg {xs : List D} {a : D} {k : Int} {d : D} (hi : items? a = some xs) (h0 : k < 0) (hk : 0 ≤ k + xs.length) (h1 : xs[(k + xs.length).toNat]? = some d) : ixD a (.int k) = some d := by
  have h2 : (k + xs.length).toNat < xs.length := (List.getElem?_eq_some_iff.mp h1).1
  unfold ixD atI ixN
  rw [hi]
  simp only
  rw [if_neg (by omega), if_pos (by omega)]
  simpa using h1
theorem lenD_L (xs : List Int) : lenD (L xs) = some (.int xs.length) := by simp [lenD, items?]
theorem rangeL_eq (lo : Int) (n : Nat) : rangeL lo n = ((List.range n).map fun (i : Nat) => lo + (i : Int)).map D.int := by simp [rangeL, List.map_map]
def rangeI (lo : Int) (n : Nat) : List Int := (List.range n).map fun (i : Nat) => lo + (i : Int)
theorem rangeL_I (lo : Int) (n : Nat) : rangeL lo n = (rangeI lo n).map D.int := rangeL_eq lo n
theorem mem_rangeI {lo : Int} {n : Nat} {x : Int} : x ∈ rangeI lo n ↔ lo ≤ x ∧ x < lo + n := by
  unfold rangeI
  rw [List.mem_map]
  constructor
  · rintro ⟨i, hi, rfl⟩
    rw [List.mem_range] at hi
    omega
  · rintro ⟨h1, h2⟩
    exact ⟨(x - lo).toNat, List.mem_range.mpr (by omega), by omega⟩
theorem rangeI_len (lo : Int) (n : Nat) : (rangeI lo n).length = n := by simp [rangeI]
theorem rgOk_small {i : Int} (h : -4611686018427387903 ≤ i) (h2 : i < 4611686018427387903) : rgOk i = true := inBd_of (by omega) (by omega)
theorem filterMap_ints {p : Int → Bool} {f : D → Option D} (h : ∀ i, f (.int i) = if p i then some (.int i) else none) : ∀ xs : List Int, (xs.map D.int).filterMap f = (xs.filter p).map D.int
  | [] => rfl
  | x :: xs => by
    simp only [List.map_cons, List.filterMap_cons, h, List.filter_cons]
    by_cases hp : p x = true
    · simp only [hp, if_true, List.map_cons, filterMap_ints h xs]
    · simp only [Bool.not_eq_true] at hp
      simp only [hp, Bool.false_eq_true, if_false, filterMap_ints h xs]
mutual
theorem eqd_refl : ∀ (d : D) (n : Nat), okD d n = true → eqd d d = true
  | .non, _, _ => by simp only [eqd]
  | .bl b, _, _ => by simp [eqd]
  | .int b, _, _ => by simp [eqd]
  | .str b, _, _ => by simp [eqd]
  | .tok _, _, h => by simp [okD] at h
  | .dct _, _, h => by simp [okD] at h
  | .dctT _, _, h => by simp [okD] at h
  | .dctF _, _, h => by simp [okD] at h
  | .dctG _, _, h => by simp [okD] at h
  | .tup xs, n, h => by
    cases n with
    | zero => simp [okD] at h
    | succ n => simp only [okD] at h; simp only [eqd]; exact eqds_refl xs n h
  | .lst xs, n, h => by
    cases n with
    | zero => simp [okD] at h
    | succ n => simp only [okD] at h; simp only [eqd]; exact eqds_refl xs n h
theorem eqds_refl : ∀ (ds : List D) (n : Nat), okDs ds n = true → eqds ds ds = true
  | [], _, _ => by simp only [eqds]
  | d :: ds, n, h => by
    simp only [okDs, Bool.and_eq_true] at h
    simp only [eqds, eqd_refl d n h.1, eqds_refl ds n h.2, Bool.and_self]
end
theorem neD_self {d : D} (h : okD d 8 = true) : neD d d = some (.bl false) := by unfold neD; rw [h, eqd_refl d 8 h]; rfl
theorem eqD_self {d : D} (h : okD d 8 = true) : eqD d d = some (.bl true) := by unfold eqD; rw [h, eqd_refl d 8 h]; rfl
theorem okD_L (xs : List Int) (n : Nat) : okD (L xs) (n + 1) = true := by simp only [okD]; exact okDs_ints xs n
theorem okD_TU (xs : List Int) (n : Nat) : okD (TU xs) (n + 1) = true := by simp only [okD]; exact okDs_ints xs n
theorem okDs_map {α : Type} {f : α → D} {n : Nat} (h : ∀ a, okD (f a) n = true) : ∀ xs : List α, okDs (xs.map f) n = true
  | [] => rfl
  | x :: xs => by simp only [List.map_cons, okDs, h, okDs_map h xs, Bool.and_self]
/-- a list against the empty one -/
theorem eqD_nil {ds : List D} (h : okD (.lst ds) 8 = true) : eqD (.lst ds) (.lst []) = some (.bl ds.isEmpty) := by
  unfold eqD
  rw [h]
  cases ds <;> simp [okD, okDs, eqd, eqds]
theorem neD_nil {ds : List D} (h : okD (.lst ds) 8 = true) : neD (.lst ds) (.lst []) = some (.bl (!ds.isEmpty)) := by
  unfold neD
  rw [h]
  cases ds <;> simp [okD, okDs, eqd, eqds]
theorem inL_ints (g : Int) : ∀ xs : List Int, inL (.int g) (xs.map D.int) = xs.contains g
  | [] => rfl
  | x :: xs => by
    have ih := inL_ints g xs
    unfold inL at ih ⊢
    rw [List.map_cons, List.any_cons, ih, eqd_int, List.contains_cons]
    congr 1
    by_cases h : x = g
    · rw [h]
    · rw [beq_false_of_ne h, beq_false_of_ne (fun z => h z.symm)]
theorem inD_L (g : Int) (xs : List Int) : inD (.int g) (L xs) = some (.bl (xs.contains g)) := by
  unfold inD items?
  simp only [okD, okDs_ints, Bool.and_self, if_true, inL_ints]
theorem notInD_L (g : Int) (xs : List Int) : notInD (.int g) (L xs) = some (.bl (!xs.contains g)) := by
  unfold notInD items?
  simp only [okD, okDs_ints, Bool.and_self, if_true, inL_ints]
/-- a comprehension of one clause whose elements change nothing -/
theorem lc1_ok {c : Nat} {it : EM (List D)} {tt : EM Bool} {te : EM D} {ρ : Fr} {ω : W3} {ds : List D} (g : D → Option D) (h : it ρ ω = .ok ds ρ ω) (hn : isOwn ρ[c]? = false) (hc : c < ρ.length) (hl : ds.length ≤ LIM)
    (he : ∀ d ∈ ds, (g d = none ∧ tt (ρ.set c (.val d)) ω = .ok false (ρ.set c (.val d)) ω) ∨ ∃ x, g d = some x ∧ tt (ρ.set c (.val d)) ω = .ok true (ρ.set c (.val d)) ω ∧ te (ρ.set c (.val d)) ω = .ok x (ρ.set c (.val d)) ω) :
    lcM [c] it (nmT c) tt te ρ ω = .ok (ds.filterMap g) ρ ω := by
  have ss : ∀ (x y : Slot), (ρ.set c x).set c y = ρ.set c y := fun x y => List.set_set ..
  have e := lcM_ok (vs := [c]) (tm := nmT c) (tt := tt) (te := te) (xs := ds.filterMap g) (ρ'' := wipeF [c] ρ) (ω'' := ω) h (by simp [noOwn, hn]) (by
    have := compL_map (vs := [c]) (t := nmT c) (tt := tt) (te := te) (ρ := wipeF [c] ρ) (ω := ω) g ds [] (fun d hd => by
      refine ⟨ρ.set c (.val d), ρ.set c (.val d), by simp only [nmT, wipeF, ss], ?_⟩
      have w : wipeF [c] (ρ.set c (.val d)) = wipeF [c] ρ := by simp only [wipeF, ss]
      rcases he d hd with ⟨h1, h2⟩ | ⟨x, h1, h2, h3⟩
      · exact .inl ⟨h1, h2, w⟩
      · exact .inr ⟨x, _, h1, h2, h3, w⟩) (by simpa using hl)
    simpa using this)
  rw [e]
  have : restF [c] ρ (wipeF [c] ρ) = ρ := by
    simp only [restF, wipeF, ss]
    rw [List.getD_eq_getElem?_getD, List.getElem?_eq_getElem hc]
    simp
  rw [this]
/-- the same without a test -/
theorem lc1_map {c : Nat} {it : EM (List D)} {te : EM D} {ρ : Fr} {ω : W3} {ds : List D} (g : D → D) (h : it ρ ω = .ok ds ρ ω) (hn : isOwn ρ[c]? = false) (hc : c < ρ.length) (hl : ds.length ≤ LIM)
    (he : ∀ d ∈ ds, te (ρ.set c (.val d)) ω = .ok (g d) (ρ.set c (.val d)) ω) : lcM [c] it (nmT c) yesT te ρ ω = .ok (ds.map g) ρ ω := by
  have := lc1_ok (tt := yesT) (te := te) (fun d => some (g d)) h hn hc hl (fun d hd => .inr ⟨g d, rfl, rfl, he d hd⟩)
  rw [this]
  congr 1
  exact List.filterMap_eq_map' ▸ rfl
/-- .. that keeps numbers by a test -/
theorem lc1_filter {c : Nat} {it : EM (List D)} {tt : EM Bool} {te : EM D} {ρ : Fr} {ω : W3} {is : List Int} (p : Int → Bool) (h : it ρ ω = .ok (is.map D.int) ρ ω) (hn : isOwn ρ[c]? = false) (hc : c < ρ.length) (hl : is.length ≤ LIM)
    (ht : ∀ i ∈ is, tt (ρ.set c (.val (.int i))) ω = .ok (p i) (ρ.set c (.val (.int i))) ω) (he : ∀ i ∈ is, te (ρ.set c (.val (.int i))) ω = .ok (.int i) (ρ.set c (.val (.int i))) ω) : lcM [c] it (nmT c) tt te ρ ω = .ok ((is.filter p).map D.int) ρ ω := by
  have := lc1_ok (tt := tt) (te := te) (fun d => match d with | .int i => if p i then some (.int i) else none | _ => none) h hn hc (by simpa using hl) (fun d hd => by
    obtain ⟨i, hi, rfl⟩ := List.mem_map.mp hd
    have t := ht i hi
    cases hp : p i with
    | true => rw [hp] at t; exact .inr ⟨.int i, by simp [hp], t, he i hi⟩
    | false => rw [hp] at t; exact .inl ⟨by simp [hp], t⟩)
  rw [this, filterMap_ints (p := p) (fun i => rfl)]
end L2.Fl

namespace L2.Fl
open PySem PySem.Spec PyProof.Rows

/-! ### generator expressions: the frame in which the elements are made -/
abbrev genCx (X : Cx) (A : Around) (s : Shared) (H : Hp) (cenv : Env) (fp : List Addr) (pn : List (Addr × Obj)) : Cx := { X with A := A.deeper cenv, s_0 := s, H_0 := H, env := cenv, outer := X.stack, stack := cenv :: X.stack, ex := fp, fn := fun _ => false, pn := pn, xe := fun _ _ => False }
section
variable {X : Cx} {pins : List (Addr × Obj)} {σ : L2.St} {H : Hp} {s : Shared}
theorem clo_mem {sc : Scope} {own : List (Str × Nat)} (I : Inv X pins σ H s) (ok : BlkOk X.N X.env.scope sc own) {y : Str} {c : Addr} (hm : (y, c) ∈ cloFrom X.env.cells sc.names []) : X.env.cells.lookup y = some c ∧ c < s.heap.objs.size ∧ (y, NameKind.free) ∈ sc.names := by
  rcases cloFrom_mem hm with hm | ⟨h1, rfl⟩
  · cases hm
  · obtain ⟨c, hc⟩ := (ok.free _ h1 rfl).elim (fun k => I.ok.has _ (.inl k)) fun k => I.ok.has _ (.inr k)
    rw [hc]
    obtain ⟨w, z⟩ := I.cell _ _ hc
    exact ⟨rfl, z.lt, h1⟩
theorem gen_start {sc : Scope} {own : List (Str × Nat)} {fp : List Addr} {A : Around} {code it : Value} {h' : Heap} {g' : Array GenState} {tk' : Nat} {d' : Drawn} (I : Inv X pins σ H s) (ok : BlkOk X.N X.env.scope sc own) (nc : ∀ y ∈ sc.names, y.2 ≠ .cell) (hN : X.N.Nodup) (dot : (".0" : Str) ∉ X.N)
    (hfp : ∀ b ∈ fp, FpOk X pins H b ∧ b < s.heap.objs.size) (hfr : A.frames = some X.stack) (hA : A.handled = none) (hn : h'.Ns s.heap.objs.size (fun y => if y = (".0" : Str) then some it else none)) (kp : ∀ b o, s.heap.get? b = some o → h'.get? b = some o) (hg : AllBare g') :
    Inv (genCx X A s H (genEnv sc (cloFrom X.env.cells sc.names []) s.heap.objs.size code builtinsNs X.env) fp []) [] (wipe σ (own.map (·.2))) H { s with heap := h', gens := g', toks := tk', drawn := d' } := by
  generalize hcenv : genEnv sc (cloFrom X.env.cells sc.names []) s.heap.objs.size code builtinsNs X.env = cenv
  have hL : cenv.locals = s.heap.objs.size := by rw [← hcenv]; rfl
  have hcl : cenv.cells = cloFrom X.env.cells sc.names [] := by rw [← hcenv]; rfl
  have hsc : cenv.scope = sc := by rw [← hcenv]; rfl
  have hfrm : cenv.frame = some cenv.locals := by rw [← hcenv]; rfl
  have mem : ∀ {y c}, cenv.cells.lookup y = some c → X.env.cells.lookup y = some c ∧ c < s.heap.objs.size ∧ (y, NameKind.free) ∈ sc.names := fun {y c} e => by
    rw [hcl] at e
    exact clo_mem I ok (PySem.mem_of_lookup e)
  have look : ∀ {y}, sc.names.lookup y = some .free → ∃ c, cenv.cells.lookup y = some c ∧ X.env.cells.lookup y = some c := fun {y} hl => by
    have hy : (y, NameKind.free) ∈ sc.names := PySem.mem_of_lookup hl
    obtain ⟨c', e'⟩ := mem_lookup (cloFrom_has (cells := X.env.cells) (acc := []) hy)
    rw [← hcl] at e'
    exact ⟨c', e', (mem e').1⟩
  have okG : (genCx X A s H cenv fp []).Ok := by
    refine ⟨I.ok.mod, by show cenv.scope.kind = _; rw [hsc]; exact ok.kind, by show cenv.globals = _; rw [← hcenv]; exact I.ok.glob, by show cenv.builtins = _; rw [← hcenv]; rfl, by show s.heap.objs.size ≤ cenv.locals; rw [hL]; exact Nat.le_refl _,
      fun y z c e1 e2 => I.ok.inj y z c (mem e1).1 (mem e2).1, fun y hy => ?_, fun y c z => (by cases z), fun _ => hA, Around.frames_deeper hfr, .inr ⟨rfl, hfrm⟩, fun b hb => ⟨?_, fun y c e z => (hfp b hb).1.2.2.2.2.1 y c (mem e).1 z⟩, I.bs, Nat.le_trans I.ok.bsz I.sz, fun b o e hb => ?_, fun b hb z => ?_, I.stack, I.stkFree⟩
    · have hy : sc.names.lookup y = some .cell ∨ sc.names.lookup y = some .free := by rw [← hsc]; exact hy
      rcases hy with hy | hy
      · exact absurd rfl (nc _ (PySem.mem_of_lookup hy))
      · obtain ⟨c, h1, _⟩ := look hy
        exact ⟨c, h1⟩
    · show b ≠ cenv.locals
      rw [hL]; exact Nat.ne_of_lt (hfp b hb).2
    · rcases (hfp b hb).1.2.2.2.1 with z | z
      · exact I.ok.noex b o e z
      · exact absurd (Nat.lt_of_lt_of_le (Heap.lt_size e) (Nat.le_trans I.ok.bsz z)) (Nat.lt_irrefl _)
    · rcases List.mem_cons.mp (I.stkSub b z) with z | z
      · exact (hfp b hb).1.2.1 z
      · exact (hfp b hb).1.2.2.1 z
  refine ⟨okG, rfl, hg, Un.kept kp, ⟨_, by show Heap.Ns _ cenv.locals _; rw [hL]; exact hn, fun i y av e1 e2 e3 => ?_⟩, fun y c e => ?_, ?_, fun y c e => I.freeC y c (mem e).1, fun p hp => (nomatch (show p ∈ ([] : List (Addr × Obj)) from hp)), I.hok.kept kp, by rw [wipe_length]; exact I.len⟩
  · obtain ⟨e2, hne⟩ := wipe_some e2
    have e3 : Vis sc y := by rw [← hsc]; exact e3
    have hfree : sc.names.lookup y = some .free := by
      have no : ∀ k, sc.names.lookup y = some k → k = .local ∨ k = .cell → False := fun k e hh => by
        rcases ok.own _ (PySem.mem_of_lookup e) hh with e' | e'
        · obtain ⟨p, hp, hpy⟩ := List.mem_map.mp e'
          have e4 := ok.ix p hp
          have hpy : p.1 = y := hpy
          rw [hpy] at e4
          exact hne (List.mem_map.mpr ⟨p, hp, nodup_ix hN e4 e1⟩)
        · exact e' (List.mem_of_getElem? e1)
      rcases e3 with e3 | e3 | e3
      · exact (no _ e3 (.inl rfl)).elim
      · exact (no _ e3 (.inr rfl)).elim
      · exact e3
    obtain ⟨m, hn', hl⟩ := I.loc
    have hmem := PySem.mem_of_lookup hfree
    have hvis : Vis X.env.scope y := (ok.free _ hmem rfl).elim (fun k => .inr (.inl k)) (fun k => .inr (.inr k))
    obtain ⟨w, r, q⟩ := hl i y av e1 e2 hvis
    refine ⟨w, r, .inr ⟨.inr (by show cenv.scope.names.lookup y = _; rw [hsc]; exact hfree), ?_⟩⟩
    obtain ⟨c, h1, h2⟩ := look hfree
    rcases q with ⟨k, _⟩ | ⟨_, c', e', z⟩
    · have k : X.env.scope.names.lookup y = some .local := k
      rcases ok.free _ hmem rfl with k' | k' <;> rw [show X.env.scope.names.lookup y = _ from k'] at k <;> cases k
    · rw [h2] at e'; cases e'
      exact ⟨c, h1, z.keeps kp⟩
  · obtain ⟨w, z⟩ := I.cell y c (mem e).1
    exact ⟨w, z.keeps kp⟩
  · show H cenv.locals = none
    rw [hL]; exact I.hok.fresh (Nat.le_refl _)
/-- things pinned in the generator's frame -/
theorem gen_pin {A : Around} {s0 : Shared} {H0 H' : Hp} {cenv : Env} {fp : List Addr} {pn : List (Addr × Obj)} {σ' : L2.St} {s1 : Shared} (I : Inv (genCx X A s0 H0 cenv fp []) [] σ' H' s1) (h : ∀ p ∈ pn, s1.heap.get? p.1 = some p.2 ∧ H' p.1 = none ∧ p.1 ≠ cenv.locals ∧ p.1 ∉ frs X.stack ∧ ∀ v, p.2.data ≠ .cell v) :
    Inv (genCx X A s0 H0 cenv fp pn) [] σ' H' s1 :=
  ⟨⟨I.ok.mod, I.ok.kind, I.ok.glob, I.ok.blt, I.ok.above, I.ok.inj, I.ok.has, I.ok.cab, I.ok.hd, I.ok.frames, I.ok.stk, I.ok.exf, I.ok.bs, I.ok.bsz, I.ok.noex, I.ok.exfs, I.ok.funs, I.ok.frf⟩, I.os, I.bare, I.base, I.loc, I.cell, I.free, I.freeC, fun p hp => h p (by simpa using hp), I.hok, I.len⟩
theorem inv_gens {Y : Cx} {pins : List (Addr × Obj)} {σ' : L2.St} {H' : Hp} {s1 : Shared} {g' : Array GenState} (I : Inv Y pins σ' H' s1) (hg : AllBare g') : Inv Y pins σ' H' { s1 with gens := g' } := ⟨I.ok, I.os, hg, I.base, I.loc, I.cell, I.free, I.freeC, I.pin, I.hok, I.len⟩
/-- the end of the generator's run; an item handed out: H₀ is the heap where the run was taken up -/
def GEndI (X : Cx) (σw : L2.St) (fp : List Addr) (Qd : Hp → Hp → Prop) : GenEnd := fun _ s₀ r s => r = .ok .next ∧ ∃ H₀ H, Inv X [] σw H₀ s₀ ∧ Inv X [] σw H s ∧ (∀ b ∈ fp, H b = none) ∧ Qd H₀ H
abbrev YTy := Hp → V → Hp → (Hp → Prop) → Prop
def GYldI (X : Cx) (σw : L2.St) (fp : List Addr) (Yd : YTy) : Protocol := fun _ s₀ v s kap => ∃ (y : V) (H₀ H : Hp) (Nx : Hp → Prop) (σy : L2.St), RelV y v ∧ Inv X [] σw H₀ s₀ ∧ Inv X [] σw H s ∧ Inv X [] σy H s ∧ (∀ b ∈ fp, H b = none) ∧ Yd H₀ y H Nx ∧
  (∀ H', Nx H' → (∀ b, H b = none → H' b = none) → ∀ s'', Inv X [] σw H' s'' → Inv X [] σy H' s'' → (∀ b o, H b = none → s.heap.get? b = some o → s''.heap.get? b = some o) → kap (.send .none) s'')
/-- the turns that are to come -/
def GTurns (J : L2.It) (σw : L2.St) (vs : List Nat) (g : TG) (tt : TT) (te : TE) (Yd : YTy) (Qd : Hp → Hp → Prop) (W : Nat → Nat → Hp → Hp → Prop) : Prop := ∀ i m H₀ H, W i m H₀ H → (J.stop i H ∧ Qd H₀ H) ∨ (J.go i H ∧ ∃ Nx : Hp → Hp → Prop, (∀ H₀' H', Nx H₀' H' → ∃ m', m' < m ∧ W (i + 1) m' H₀' H') ∧ ∀ x H', J.yld i H x H' → g x σw H' fun σ2 H2 => wipe σ2 vs = σw ∧ tt σ2 H2 fun b H3 =>
  if b = true then te σ2 H3 fun y H4 => Yd H₀ y H4 (fun H' => Nx H' H') else Nx H₀ H3)
theorem seg_gen1 {elt tg iter : Expr} {ifs : List Expr} {scope : Scope} {pos : Pos} {it : Addr} {fp : List Addr} {tn : Nat → Heap → Prop} {J : L2.It} {A : Around} {s0 : Shared} {H0 : Hp} {cenv : Env} {vs : List Nat} {σ0 : L2.St} {g : TG} {tt : TT} {te : TE} {pn : List (Addr × Obj)} (hpn : ∀ p ∈ pn, p.1 ∉ fp)
    (hover : A.over (.compLoop (.GeneratorExp elt [⟨tg, iter, ifs, 0⟩] scope pos) 0 (.ref it) .none cenv) [] = A.deeper cenv) (hco : cenv.scope.isCoroutine = false) (hc : X.calm = true)
    (T : Turn X.prog X.w X.K tg J fp it tn) (pg : PG (genCx X A s0 H0 cenv fp pn) tg g) (pt : PTs (genCx X A s0 H0 cenv fp pn) ifs tt) (pe : PE (genCx X A s0 H0 cenv fp pn) elt te)
    (Yd : YTy) (Qd : Hp → Hp → Prop) (W : Nat → Nat → Hp → Hp → Prop) (turn : GTurns J (wipe σ0 vs) vs g tt te Yd Qd W) :
    ∀ (m i n : Nat) (s₀ s : Shared) (H₀ H : Hp), m < n → Inv (genCx X A s0 H0 cenv fp pn) [] (wipe σ0 vs) H₀ s₀ → Inv (genCx X A s0 H0 cenv fp pn) [] (wipe σ0 vs) H s → tn i s.heap → (∀ b ∈ fp, H b = none) → W i m H₀ H →
      Seg (model X.prog X.w) A (GEndI (genCx X A s0 H0 cenv fp pn) (wipe σ0 vs) fp Qd) (GYldI (genCx X A s0 H0 cenv fp pn) (wipe σ0 vs) fp Yd) n s₀ (.compLoop (.GeneratorExp elt [⟨tg, iter, ifs, 0⟩] scope pos) 0 (.ref it) .none cenv)
        ((model X.prog X.w).den (.compLoop (.GeneratorExp elt [⟨tg, iter, ifs, 0⟩] scope pos) 0 (.ref it) .none cenv)) [] s := by
  have stat : ∀ {σ' : L2.St} {H' : Hp} {s' : Shared}, Inv (genCx X A s0 H0 cenv fp pn) [] σ' H' s' → (∀ b ∈ fp, H' b = none) → ∀ b ∈ fp, FpOk (genCx X A s0 H0 cenv fp pn) [] H' b := fun {σ' H' s'} I' hn b hb =>
    ⟨hn b hb, (I'.ok.exf b hb).1, I'.ok.exfs b hb, .inl hb, fun x c e => (I'.ok.exf b hb).2 x c e, fun p hp e => hpn p (by simpa using hp) (e ▸ hb)⟩
  intro m
  induction m using Nat.strongRecOn with
  | _ m ih =>
    intro i n s₀ s H₀ H hmn I0 I st nf w
    show Seg _ A _ _ _ s₀ _ ((compTurn (.GeneratorExp elt [⟨tg, iter, ifs, 0⟩] scope pos) 0 (.ref it) .none cenv).onRaise (leaving cenv)) [] s
    rw [compTurn_gen, Sem.onRaise_eq_wrap]
    refine seg_bind_wrap (wpAny_standAt ?_)
    rcases turn i m H₀ H w with ⟨stop, qq⟩ | ⟨go, Nx, hNx, step⟩
    · refine seg_bind_wrap ?_
      rw [hover]
      refine thnF (T.done (genCx X A s0 H0 cenv fp pn) rfl rfl rfl hc i [] s _ H (fun _ _ => False) I (stat I nf) st stop) fun r s1 ⟨hr, I1⟩ => ?_
      subst hr
      exact seg_end (.ok .next) ⟨rfl, H₀, H, I0, I1, nf, qq⟩
    · refine seg_bind_wrap ?_
      rw [hover]
      refine thnF (T.item (genCx X A s0 H0 cenv fp pn) rfl rfl rfl hc i [] s _ H (fun _ _ => False) I (stat I nf) st go) fun r s1 ⟨u, hr, h1⟩ => ?_
      subst hr
      refine seg_bind_wrap ?_
      rw [hover]
      refine thnF h1 fun _ s2 ⟨x, H2, I2, r2, y2, st2, nf2⟩ => ?_
      have I2' := I2.pinned (stat I2 nf2) (T.obj _ _ st2)
      refine seg_bind_wrap ?_
      rw [hover]
      refine thnF (pg.run _ s2 _ H2 x u _ I2' r2 (step x H2 y2)) fun _ s3 ⟨σ3, H3, I3, hw3, q3⟩ => ?_
      refine seg_bind_wrap ?_
      rw [hover]
      refine thnF (pt.run _ s3 σ3 H3 _ I3 q3) fun b s4 ⟨H4, I4, q4⟩ => ?_
      -- behind the turn: the names forgotten, the iterator as it was
      have fin : ∀ {z : Shared} {H' : Hp}, Inv (genCx X A s0 H0 cenv fp pn) ([] ++ pinsAt fp s2.heap) σ3 H' z → Inv (genCx X A s0 H0 cenv fp pn) [] (wipe σ0 vs) H' z ∧ tn (i + 1) z.heap ∧ ∀ b ∈ fp, H' b = none := fun {z H'} I' => by
        have pin' : ∀ b ∈ fp, ∀ o, s2.heap.get? b = some o → z.heap.get? b = some o ∧ H' b = none := fun b hb o e => by
          have y := I'.pin (b, o) (List.mem_append_right _ (List.mem_append_right _ (mem_pinsAt hb e)))
          exact ⟨y.1, y.2.1⟩
        refine ⟨(I'.unpinned (pins := [])).weak (by rw [← hw3, wipe_length]) (fun j v e => by rw [← hw3] at e; exact (wipe_some e).1), T.keep _ _ _ st2 fun b hb o e => (pin' b hb o e).1, fun b hb => ?_⟩
        obtain ⟨o, e, _⟩ := T.obj _ _ st2 b hb
        exact (pin' b hb o e).2
      cases b with
      | false =>
        simp only [Bool.false_eq_true, if_false] at q4 ⊢
        obtain ⟨m', hm, w'⟩ := hNx _ _ q4
        obtain ⟨f1, f2, f3⟩ := fin I4
        exact seg_again rfl (ih m' hm (i + 1) n s₀ _ _ _ (by omega) I0 f1 f2 f3 w')
      | true =>
        simp only [if_true] at q4 ⊢
        have hy : ∀ v, yieldOut cenv v = yieldValue v := fun v => by simp only [yieldOut, hco, Bool.false_eq_true, if_false]
        simp only [hy]
        rw [Sem.bind_eq_wrap', Sem.bind_eq_wrap', Sem.wrap_wrap, Sem.wrap_wrap]
        refine seg_wrap ?_
        rw [hover]
        refine thnF (pe.run _ s4 σ3 H4 _ I4 q4) fun v s5 ⟨y, H5, I5, r5, q5⟩ => ?_
        obtain ⟨f1, f2, f3⟩ := fin I5
        cases n with
        | zero => exact absurd hmn (Nat.not_lt_zero _)
        | succ n =>
          refine seg_at (seg_yield rfl rfl rfl ⟨y, H₀, H5, (fun H' => Nx H' H'), _, r5, I0, f1, f1, f3, q5, fun H' nx dm s'' I'' _ k'' => ?_⟩)
          obtain ⟨m', hm, w'⟩ := hNx _ _ nx
          exact seg_again rfl (ih m' hm (i + 1) n s'' s'' H' H' (by omega) I'' I'' (T.keep _ _ _ f2 fun b hb o e => k'' b o (f3 b hb) e) (fun b hb => dm b (f3 b hb)) w')
end
end L2.Fl

namespace L2.Fl
open PySem PySem.Spec PyProof.Rows GenW

section
variable {X GX : Cx} {σw : L2.St} {fp : List Addr} {Yd : YTy} {Qd : Hp → Hp → Prop} {A : Around} {a : Addr} {g : Nat} {go : Obj}
/-- the generator stands ready -/
def GReady (GX : Cx) (A : Around) (σw : L2.St) (fp : List Addr) (Qd : Hp → Hp → Prop) (Yd : YTy) (g n : Nat) (s : Shared) : Prop :=
  ∃ (gs : GenState) (H : Hp), Inv GX [] σw H s ∧ (∀ b ∈ fp, H b = none) ∧ s.gens[g]? = some gs ∧ gs.Goes (model GX.prog GX.w) A (GEndI GX σw fp Qd) (GYldI GX σw fp Yd) n (.send .none) (s.setGen g .running)
theorem inv_setGen {Y : Cx} {pins : List (Addr × Obj)} {σ' : L2.St} {H' : Hp} {s1 : Shared} {x : GenState} (I : Inv Y pins σ' H' s1) (hx : x.bare = true) : Inv Y pins σ' H' (s1.setGen g x) := inv_gens I (allBare_setGen I.bare hx)
/-- one step of a consumer -/
theorem gen_next {n : Nat} {s : Shared} {Q : Option Value → Shared → Prop} {E : Value → Shared → Prop} (hh : A.handled = none) (hroom : A.depth < recursionLimit) (hgo : ∀ h : Heap, h.get? a = some go → h.IsGen a g) (hpn : (a, go) ∈ GX.pn)
    (R : GReady GX A.in1 σw fp Qd Yd g n s)
    (hE : ∀ s1 H₀ H, Inv GX [] σw H₀ s → Inv GX [] σw H s1 → (∀ b ∈ fp, H b = none) → Qd H₀ H → Q none s1)
    (hY : ∀ v y s1 H₀ H Nx σy, RelV y v → Inv GX [] σw H₀ s → Inv GX [] σw H s1 → Inv GX [] σy H s1 → (∀ b ∈ fp, H b = none) → Yd H₀ y H Nx →
      (∀ H', Nx H' → (∀ b, H b = none → H' b = none) → ∀ s2, Inv GX [] σw H' s2 → Inv GX [] σy H' s2 → s2.gens = s1.gens → (∀ b o, H b = none → s1.heap.get? b = some o → s2.heap.get? b = some o) → ∃ m, m < n ∧ GReady GX A.in1 σw fp Qd Yd g m s2) → Q (some v) s1) :
    wpAny (model GX.prog GX.w) A (pyNext (.ref a)) Q E s := by
  obtain ⟨gs, H, I, nf, hgs, goes⟩ := R
  have hgen : s.heap.IsGen a g := hgo _ (I.pin (a, go) (List.mem_append_left _ hpn)).1
  have hlt : g < s.gens.size := (Array.getElem?_eq_some_iff.mp hgs).1
  refine wpAny_gsz (Nat.le_refl _) ?_
  refine wpAny_pyNext_genexpQ (Q := fun r s' => s.gens.size ≤ s'.gens.size → Q r s') (P := fun _ s₀ s1 => ∃ H₀ H, Inv GX [] σw H₀ s₀ ∧ Inv GX [] σw H s1 ∧ (∀ b ∈ fp, H b = none) ∧ Qd H₀ H) (Y := GYldI GX σw fp Yd) hh I.nolimit hroom hgen hgs goes (fun v s1 gs' hb hy => ?_) (fun s1 hp h' hk => ?_)
  · obtain ⟨y, H₀, H1, Nx, σy, ry, I0, I1, Iy, nf1, q, nx⟩ := hy
    intro hsz
    refine hY v y _ H₀ H1 Nx σy ry (show Inv GX [] σw H₀ { s.setGen g .running with gens := s.gens } from inv_gens I0 I.bare) (inv_setGen I1 hb) (inv_setGen Iy hb) nf1 q fun H' z nf' s2 I2 Iy2 hg2 k2 => ?_
    cases n with
    | zero => exact (nx H' z nf' s2 I2 Iy2 k2).elim
    | succ m =>
      refine ⟨m, Nat.lt_succ_self m, gs', H', I2, fun b hb => nf' b (nf1 b hb), ?_, ?_⟩
      · rw [hg2]
        have q2 : (s1.setGen g gs').gens.size = s1.gens.size := setGen_size s1 g gs'
        exact setGen_at (by rw [q2] at hsz; exact Nat.lt_of_lt_of_le hlt hsz)
      · exact nx H' z nf' _ (inv_setGen I2 rfl) (inv_setGen Iy2 rfl) k2
  · obtain ⟨H₀, H1, I0, I1, nf1, qd⟩ := hp
    intro _
    exact hE _ H₀ H1 (show Inv GX [] σw H₀ { s.setGen g .running with gens := s.gens } from inv_gens I0 I.bare) ((inv_setGen (x := .finished) I1 rfl).kept (t' := s1.toks) hk) nf1 qd
/-- what any, all say of an item: it is a bool; the one that ends the run leads to Qs, else on -/
def YdB (stop : Bool) (Qs : Hp → Prop) : YTy := fun _ y H Nx => ∃ b, y = .bl b ∧ (b = stop → Qs H) ∧ (b ≠ stop → Nx H)
abbrev QdB (Qd : Hp → Prop) : Hp → Hp → Prop := fun _ H => Qd H
/-- the end of any, all -/
def GDone (GX : Cx) (σw : L2.St) (fp : List Addr) (stop : Bool) (Qs Qd : Hp → Prop) (r : Result) (s' : Shared) : Prop := ∃ b H, r = .ok (.ret (.bool b)) ∧ Inv GX [] σw H s' ∧ (∀ x ∈ fp, H x = none) ∧ (b = stop → Qs H) ∧ (b ≠ stop → Qd H)
theorem any_gen {Qs Qe : Hp → Prop} (hh : A.handled = none) (hroom : A.depth < recursionLimit) (hgo : ∀ h : Heap, h.get? a = some go → h.IsGen a g) (hpn : (a, go) ∈ GX.pn) : ∀ (n : Nat) (s : Shared), GReady GX A.in1.in1 σw fp (QdB Qe) (YdB true Qs) g n s →
    codeAny (model GX.prog GX.w) A (.builtin "any.loop" ⟨[.ref a], []⟩) (GDone GX σw fp true Qs Qe) s := by
  intro n
  induction n using Nat.strongRecOn with
  | _ n ih =>
    intro s R
    refine codeAny_builtin F.entry_any_loop ?_
    rw [Around.under_plainId F.plain_any_loop _]
    show wpAny _ A.in1 (pyNext (.ref a) >>= _) _ _ s
    refine wpAny_bind (gen_next (A := A.in1) hh hroom hgo hpn R (fun s1 H₀ H I0 I nf q => ?_) (fun v y s1 H₀ H Nx σy ry I0 I Iy nf hy nx => ?_))
    · exact wpAny_bind (wpAny_rule (wpAny_pure ⟨false, H, rfl, I, nf, fun z => (nomatch z), fun _ => q⟩))
    · obtain ⟨b, rfl, h1, h2⟩ := hy
      obtain rfl : v = .bool b := ry
      refine wpAny_bind (wpAny_holding (wpAny_truthy_bool ?_))
      refine wpAny_bind (wpAny_letGo ?_)
      have go : b ≠ true → ∃ m, m < n ∧ GReady GX A.in1.in1 σw fp (QdB Qe) (YdB true Qs) g m { s1 with toks := s1.toks } := fun hb => by
        exact nx H (h2 hb) (fun _ e => e) s1 I Iy rfl fun _ _ _ e => e
      cases b with
      | true =>
        simp only [if_true, Bool.false_eq_true, if_false]
        exact wpAny_bind (wpAny_rule (wpAny_pure ⟨true, H, rfl, I, nf, fun _ => h1 rfl, fun z => absurd rfl z⟩))
      | false =>
        simp only [if_true, Bool.false_eq_true, if_false]
        obtain ⟨m, hm, w⟩ := go (by decide)
        exact wpAny_pure ⟨plainId_quiet F.plain_any_loop _, ih m hm _ w⟩
theorem all_gen {Qs Qe : Hp → Prop} (hh : A.handled = none) (hroom : A.depth < recursionLimit) (hgo : ∀ h : Heap, h.get? a = some go → h.IsGen a g) (hpn : (a, go) ∈ GX.pn) : ∀ (n : Nat) (s : Shared), GReady GX A.in1.in1 σw fp (QdB Qe) (YdB false Qs) g n s →
    codeAny (model GX.prog GX.w) A (.builtin "all.loop" ⟨[.ref a], []⟩) (GDone GX σw fp false Qs Qe) s := by
  intro n
  induction n using Nat.strongRecOn with
  | _ n ih =>
    intro s R
    refine codeAny_builtin F.entry_all_loop ?_
    rw [Around.under_plainId F.plain_all_loop _]
    show wpAny _ A.in1 (pyNext (.ref a) >>= _) _ _ s
    refine wpAny_bind (gen_next (A := A.in1) hh hroom hgo hpn R (fun s1 H₀ H I0 I nf q => ?_) (fun v y s1 H₀ H Nx σy ry I0 I Iy nf hy nx => ?_))
    · exact wpAny_bind (wpAny_rule (wpAny_pure ⟨true, H, rfl, I, nf, fun z => (nomatch z), fun _ => q⟩))
    · obtain ⟨b, rfl, h1, h2⟩ := hy
      obtain rfl : v = .bool b := ry
      refine wpAny_bind (wpAny_holding (wpAny_truthy_bool ?_))
      refine wpAny_bind (wpAny_letGo ?_)
      have go : b ≠ false → ∃ m, m < n ∧ GReady GX A.in1.in1 σw fp (QdB Qe) (YdB false Qs) g m { s1 with toks := s1.toks } := fun hb => by
        exact nx H (h2 hb) (fun _ e => e) s1 I Iy rfl fun _ _ _ e => e
      cases b with
      | false =>
        simp only [if_true, Bool.false_eq_true, if_false]
        exact wpAny_bind (wpAny_rule (wpAny_pure ⟨false, H, rfl, I, nf, fun _ => h1 rfl, fun z => absurd rfl z⟩))
      | true =>
        simp only [if_true, Bool.false_eq_true, if_false]
        obtain ⟨m, hm, w⟩ := go (by decide)
        exact wpAny_pure ⟨plainId_quiet F.plain_all_loop _, ih m hm _ w⟩
/-! sum: the total stands in a list at S -/
def YdS (S : Addr) : YTy := fun H₀ y H Nx => ∃ a b : Int, H₀ S = some (.lst [.int a]) ∧ y = .int b ∧ H S = some (.lst [.int a]) ∧ Nx (upd H S (.lst [.int (a + b)]))
def QdS (S : Addr) (Qe : Int → Hp → Prop) : Hp → Hp → Prop := fun H₀ H => ∃ a : Int, H₀ S = some (.lst [.int a]) ∧ H S = some (.lst [.int a]) ∧ Qe a H
theorem one_at {Y : Cx} {pins : List (Addr × Obj)} {σ : L2.St} {H : Hp} {s : Shared} {S : Addr} {a : Int} (I : Inv Y pins σ H s) (h : H S = some (.lst [.int a])) : ∃ (t : Tok) (n : Nat), s.heap.get? S = some { cls := .type "list", data := .seq #[.int a t] n } := by
  obtain ⟨_, its, n, r, _, e⟩ := I.lstM h
  cases r with
  | cons r1 r2 =>
    cases r2
    obtain ⟨t, rfl⟩ := r1
    exact ⟨t, n, e⟩
theorem one_inj {Y Y' : Cx} {pins pins' : List (Addr × Obj)} {σ σ' : L2.St} {H H' : Hp} {s : Shared} {S : Addr} {a a' : Int} (I : Inv Y pins σ H s) (h : H S = some (.lst [.int a])) (I' : Inv Y' pins' σ' H' s) (h' : H' S = some (.lst [.int a'])) : a = a' := by
  obtain ⟨t, n, e⟩ := one_at I h
  obtain ⟨t', n', e'⟩ := one_at I' h'
  rw [e] at e'
  injection e' with e'
  injection e' with _ _ e'
  injection e' with e' _
  injection e' with e'
  injection e' with e' _
  injection e' with e' _
def SDone (GX : Cx) (σw : L2.St) (fp : List Addr) (Qe : Int → Hp → Prop) (r : Result) (s' : Shared) : Prop := ∃ a t H, r = .ok (.ret (.int a t)) ∧ Inv GX [] σw H s' ∧ (∀ x ∈ fp, H x = none) ∧ Qe a H
theorem sum_gen {S : Addr} {Qe : Int → Hp → Prop} (hh : A.handled = none) (hroom : A.depth < recursionLimit) (hgo : ∀ h : Heap, h.get? a = some go → h.IsGen a g) (hpn : (a, go) ∈ GX.pn) : ∀ (n : Nat) (s : Shared) (st : Int), (st = 0 ∨ st = 2) → GReady GX A.in1.in1 σw fp (QdS S Qe) (YdS S) g n s →
    (∃ Hx x, Inv GX [] σw Hx s ∧ Hx S = some (.lst [.int x])) →
    codeAny (model GX.prog GX.w) A (.builtin "sum.loop" ⟨[.ref a, .ref S, rawInt st, rawInt 0], []⟩) (SDone GX σw fp Qe) s := by
  intro n
  induction n using Nat.strongRecOn with
  | _ n ih =>
    intro s st hst R hx
    obtain ⟨Hx, x, Ix, ex⟩ := hx
    obtain ⟨tA, c, hS⟩ := one_at Ix ex
    refine codeAny_builtin F.entry_sum_loop ?_
    rw [Around.under_plainId F.plain_sum_loop _]
    show wpAny _ A.in1 (seqItems? (.ref S) >>= _) _ _ s
    refine wpAny_bind (wpAny_seqItems hS rfl ?_)
    show wpAny _ A.in1 (tryCatch (pyNext (.ref a)) _ >>= _) _ _ s
    refine wpAny_bind (wpAny_tryCatch (gen_next (A := A.in1) hh hroom hgo hpn R (fun s1 H₀ H I0 I nf q => ?_) (fun v y s1 H₀ H Nx σy ry I0 I Iy nf hy nx => ?_)))
    · obtain ⟨a', e0, e1, q⟩ := q
      obtain rfl := one_inj Ix ex I0 e0
      exact wpAny_pure ⟨x, tA, H, rfl, I, nf, q⟩
    · obtain ⟨a', b, e0, rfl, e1, q⟩ := hy
      obtain rfl := one_inj Ix ex I0 e0
      obtain ⟨t, rfl⟩ : ∃ t, v = .int b t := ry
      obtain ⟨t1, c1, hS'⟩ := one_at I e1
      have nfS : ∀ z ∈ fp, z ≠ S := fun z hz e => by
        have := nf z hz
        rw [e, e1] at this; cases this
      have nf' : ∀ z ∈ fp, upd H S (.lst [.int (x + b)]) z = none := fun z hz => by rw [upd_ne (nfS z hz)]; exact nf z hz
      have set1 : ∀ (σv : L2.St) (its : List Value) (m : Nat) (z : V) (zu : Value) (s2 : Shared) (H2 : Hp) (t' : Nat), Inv GX [] σv H2 s2 → H2 S = some (.lst [z]) → s2.heap.get? S = some { cls := .type "list", data := .seq its.toArray m } → ∀ (tk : Tok),
          Inv GX [] σv (upd H2 S (.lst [.int (x + b)])) { s2 with heap := s2.heap.update S (Obj.mapSeq fun _ => #[.int (x + b) tk]), toks := t' } := fun σv its m z zu s2 H2 t' I2 h2 e2 tk =>
        I2.lset (its' := [.int (x + b) tk]) h2 e2 rfl (.cons ⟨tk, rfl⟩ .nil) (by show 1 ≤ sizeLine; decide)
      have fin1 : ∀ (s2 : Shared), Inv GX [] σw (upd H S (.lst [.int (x + b)])) s2 → Inv GX [] σy (upd H S (.lst [.int (x + b)])) s2 → s2.gens = s1.gens → (∀ z o, z ≠ S → s1.heap.get? z = some o → s2.heap.get? z = some o) → ∀ st', (st' = 0 ∨ st' = 2) → codeAny (model GX.prog GX.w) A (.builtin "sum.loop" ⟨[.ref a, .ref S, rawInt st', rawInt 0], []⟩) (SDone GX σw fp Qe) s2 := fun s2 I2 Iy2 hg2 k2 st' hs' => by
        have nS : ∀ z, H z = none → z ≠ S := fun z hz e => by
          rw [e, e1] at hz; cases hz
        obtain ⟨m, hm, w⟩ := nx _ q (fun z hz => by rw [upd_ne (nS z hz)]; exact hz) s2 I2 Iy2 hg2 fun z o hz e => k2 z o (nS z hz) e
        exact ih m hm s2 st' hs' w ⟨_, _, I2, upd_same⟩
      rcases hst with rfl | rfl
      · show wpAny _ A.in1 (if (_ : Bool) = true then (mkInt (x + b) >>= _) else _) _ _ _
        split
        · refine wpAny_bind (wpAny_mkInt ?_)
          show wpAny _ A.in1 (updateSeq S (fun _ => #[.int (x + b) s1.toks]) >>= _) _ _ _
          refine wpAny_bind ?_
          refine wpAny_updateSeq hS' rfl (wpAny_pure ⟨plainId_quiet F.plain_sum_loop _, fin1 _ (set1 σw [.int x t1] c1 _ (.int x t1) s1 H _ I e1 hS' _) (set1 σy [.int x t1] c1 _ (.int x t1) s1 H _ Iy e1 hS' _) rfl (fun z o hz e => (Heap.get?_update_other _ _ (Ne.symm hz)).trans e) 0 (.inl rfl)⟩)
        · refine wpAny_bind (wpAny_rule ?_)
          refine wpAny_bind (wpAny_attempt (wpAny_holding (wpAny_add_int ?_)))
          show wpAny _ A.in1 (updateSeq S (fun _ => #[.int (x + b) s1.toks]) >>= _) _ _ _
          refine wpAny_bind (wpAny_updateSeq hS' rfl ?_)
          have hS₂ := Heap.get?_update_self (Obj.mapSeq fun _ => #[Value.int (x + b) s1.toks]) hS' rfl
          have I2 := fun σv I => set1 σv [.int x t1] c1 _ (.int x t1) s1 H (s1.toks + 1) I e1 hS' s1.toks
          refine wpAny_bind (wpAny_letGo ?_)
          refine wpAny_bind (wpAny_updateSeq hS₂ rfl (wpAny_pure ⟨plainId_quiet F.plain_sum_loop _, ?_⟩))
          have I3 := fun σv I => set1 σv [.int (x + b) s1.toks] _ _ (.int x t1) _ _ (s1.toks + 1) (I2 σv I) upd_same hS₂ s1.toks
          simp only [upd_upd] at I3
          refine fin1 _ (I3 σw I) (I3 σy Iy) ?_ (fun z o hz e => ?_) 2 (.inr rfl)
          · rfl
          · exact (Heap.get?_update_other _ _ (Ne.symm hz)).trans ((Heap.get?_update_other _ _ (Ne.symm hz)).trans e)
      · show wpAny _ A.in1 ((holding [Value.int b t] (binaryOp .Add (.int x tA) (.int b t))).attempt >>= _) _ _ _
        refine wpAny_bind (wpAny_attempt (wpAny_holding (wpAny_add_int ?_)))
        show wpAny _ A.in1 (updateSeq S (fun _ => #[.int (x + b) s1.toks]) >>= _) _ _ _
        refine wpAny_bind (wpAny_updateSeq hS' rfl ?_)
        have hS₂ := Heap.get?_update_self (Obj.mapSeq fun _ => #[Value.int (x + b) s1.toks]) hS' rfl
        have I2 := fun σv I => set1 σv [.int x t1] c1 _ (.int x t1) s1 H (s1.toks + 1) I e1 hS' s1.toks
        refine wpAny_bind (wpAny_letGo ?_)
        refine wpAny_bind (wpAny_updateSeq hS₂ rfl (wpAny_pure ⟨plainId_quiet F.plain_sum_loop _, ?_⟩))
        have I3 := fun σv I => set1 σv [.int (x + b) s1.toks] _ _ (.int x t1) _ _ (s1.toks + 1) (I2 σv I) upd_same hS₂ s1.toks
        simp only [upd_upd] at I3
        refine fin1 _ (I3 σw I) (I3 σy Iy) ?_ (fun z o hz e => ?_) 2 (.inr rfl)
        · rfl
        · exact (Heap.get?_update_other _ _ (Ne.symm hz)).trans ((Heap.get?_update_other _ _ (Ne.symm hz)).trans e)
end
end L2.Fl

namespace L2.Fl
open PySem PySem.Spec PyProof.Rows GenW

section
variable {X GX : Cx} {σw : L2.St} {fp : List Addr} {Yd : YTy} {Qd : Hp → Hp → Prop} {Qs Qe : Hp → Prop} {A : Around} {a : Addr} {g : Nat} {go : Obj}
theorem ready_gen (hgo : ∀ h : Heap, h.get? a = some go → h.IsGen a g) (hpn : (a, go) ∈ GX.pn) {n : Nat} {s : Shared} (R : GReady GX A σw fp Qd Yd g n s) : s.heap.IsGen a g := by
  obtain ⟨gs, H, I, _⟩ := R
  exact hgo _ (I.pin (a, go) (List.mem_append_left _ hpn)).1
theorem call_any_gen {n : Nat} {s : Shared} {Q E : Value → Shared → Prop} (hh : A.handled = none) (hroom : A.depth < recursionLimit) (hgo : ∀ h : Heap, h.get? a = some go → h.IsGen a g) (hpn : (a, go) ∈ GX.pn) (R : GReady GX A.in1.in1 σw fp (QdB Qe) (YdB true Qs) g n s)
    (hQ : ∀ b s' H, Inv GX [] σw H s' → (∀ x ∈ fp, H x = none) → (b = true → Qs H) → (b ≠ true → Qe H) → Q (.bool b) s') : wpAny (model GX.prog GX.w) A (call (.builtin "any") [.ref a]) Q E s := by
  refine call_function_tree F.kind_any F.plain_any F.entry_any (F.args_any1 _) ?_
  unfold Builtin.«any»
  refine wpAny_bind (m := oneArg "any" _) (wpAny_pure ?_)
  refine wpAny_bind (wpAny_pyIter_gen (ready_gen hgo hpn R) ?_)
  refine wpAny_pure ⟨plainId_quiet F.plain_any_loop _, codeAny_mono (any_gen hh hroom hgo hpn n s R) fun r s' q => ?_⟩
  obtain ⟨b, H, rfl, I, nf, h1, h2⟩ := q
  exact hQ b s' H I nf h1 h2
theorem call_all_gen {n : Nat} {s : Shared} {Q E : Value → Shared → Prop} (hh : A.handled = none) (hroom : A.depth < recursionLimit) (hgo : ∀ h : Heap, h.get? a = some go → h.IsGen a g) (hpn : (a, go) ∈ GX.pn) (R : GReady GX A.in1.in1 σw fp (QdB Qe) (YdB false Qs) g n s)
    (hQ : ∀ b s' H, Inv GX [] σw H s' → (∀ x ∈ fp, H x = none) → (b = false → Qs H) → (b ≠ false → Qe H) → Q (.bool b) s') : wpAny (model GX.prog GX.w) A (call (.builtin "all") [.ref a]) Q E s := by
  refine call_function_tree F.kind_all F.plain_all F.entry_all (F.args_all1 _) ?_
  unfold Builtin.«all»
  refine wpAny_bind (m := oneArg "all" _) (wpAny_pure ?_)
  refine wpAny_bind (wpAny_pyIter_gen (ready_gen hgo hpn R) ?_)
  refine wpAny_pure ⟨plainId_quiet F.plain_all_loop _, codeAny_mono (all_gen hh hroom hgo hpn n s R) fun r s' q => ?_⟩
  obtain ⟨b, H, rfl, I, nf, h1, h2⟩ := q
  exact hQ b s' H I nf h1 h2
theorem call_sum_gen {s : Shared} {Q E : Value → Shared → Prop} {Qe : Int → Hp → Prop} {H : Hp} (hh : A.handled = none) (hroom : A.depth < recursionLimit) (hgo : ∀ h : Heap, h.get? a = some go → h.IsGen a g) (hpn : (a, go) ∈ GX.pn) (I : Inv GX [] σw H s)
    (R : ∀ S s', H S = none → (∀ o, s.heap.get? S ≠ some o) → Inv GX [] σw (upd H S (.lst [.int 0])) s' → s'.gens = s.gens → (∀ b o, s.heap.get? b = some o → s'.heap.get? b = some o) → ∃ n, GReady GX A.in1.in1 σw fp (QdS S Qe) (YdS S) g n s')
    (hQ : ∀ x t s' H, Inv GX [] σw H s' → (∀ b ∈ fp, H b = none) → Qe x H → Q (.int x t) s') : wpAny (model GX.prog GX.w) A (call (.builtin "sum") [.ref a]) Q E s := by
  refine call_function_tree F.kind_sum F.plain_sum F.entry_sum (F.args_sum1 _) ?_
  unfold Builtin.«sum»
  simp only [List.length_cons, List.length_nil]
  rw [if_neg (by decide)]
  refine wpAny_bind (wpAny_of_eq (show Builtin.Builtins.bindParams "sum" ["start"] 0 { } = pure [none] from rfl) ?_)
  refine wpAny_bind (wpAny_pyIter_gen (hgo _ (I.pin (a, go) (List.mem_append_left _ hpn)).1) ?_)
  refine wpAny_bind (wpAny_mkInt ?_)
  refine wpAny_bind (wpAny_pure ?_)
  simp only [List.forIn_cons, List.forIn_nil]
  refine wpAny_bind (wpAny_bind (wpAny_bind (wpAny_isInstance (T := "int") (b := false) (typeIs_int _ _ _) PySem.sub_int_str ?_)))
  simp only [Bool.false_eq_true, if_false]
  refine wpAny_pure (wpAny_bind (wpAny_bind (wpAny_isInstance (T := "int") (b := false) (typeIs_int _ _ _) PySem.sub_int_bytes ?_)))
  simp only [Bool.false_eq_true, if_false]
  refine wpAny_pure (wpAny_bind (wpAny_bind (wpAny_isInstance (T := "int") (b := false) (typeIs_int _ _ _) PySem.sub_int_bytearray ?_)))
  simp only [Bool.false_eq_true, if_false]
  refine wpAny_pure (wpAny_pure ?_)
  refine wpAny_bind (wpAny_newObj_type ?_)
  have I1 : Inv GX [] σw (upd H s.heap.objs.size (.lst [.int 0])) { s with heap := s.heap.push { cls := .type "list", data := .seq [Value.int 0 s.toks].toArray }, toks := s.toks + 1 } :=
    I.lnew (ys := [.int 0]) (its := [.int 0 s.toks]) (.cons ⟨_, rfl⟩ .nil) (by show 1 ≤ sizeLine; decide)
  obtain ⟨n, w⟩ := R _ _ I.fresh (fun o e => Nat.lt_irrefl _ (Heap.lt_size e)) I1 rfl fun b o e => Heap.get?_push_of_some _ e
  refine wpAny_pure ⟨plainId_quiet F.plain_sum_loop _, codeAny_mono (sum_gen (S := s.heap.objs.size) hh hroom hgo hpn n _ 0 (.inl rfl) w ⟨_, _, I1, upd_same⟩) fun r s' q => ?_⟩
  obtain ⟨x, t, H', rfl, I', nf, q⟩ := q
  exact hQ x t s' H' I' nf q
/-- the start of the run -/
theorem seg_start1 {elt tg iter : Expr} {ifs : List Expr} {mo : List Comprehension} {scope : Scope} {pos : Pos} {it : Addr} {cenv : Env} {R : GenEnd} {Y : Protocol} {n : Nat} {s₀ s : Shared} {tn : Nat → Heap → Prop} {J : L2.It}
    (T : Turn X.prog X.w X.K tg J fp it tn) (st : tn 0 s.heap)
    (loop : Seg (model X.prog X.w) A R Y n s₀ (.compLoop (.GeneratorExp elt (⟨tg, iter, ifs, 0⟩ :: mo) scope pos) 0 (.ref it) .none cenv) ((model X.prog X.w).den (.compLoop (.GeneratorExp elt (⟨tg, iter, ifs, 0⟩ :: mo) scope pos) 0 (.ref it) .none cenv)) [] s) :
    Seg (model X.prog X.w) A R Y n s₀ (.compStart (.GeneratorExp elt (⟨tg, iter, ifs, 0⟩ :: mo) scope pos) 0 (.ref it) .none cenv) ((model X.prog X.w).den (.compStart (.GeneratorExp elt (⟨tg, iter, ifs, 0⟩ :: mo) scope pos) 0 (.ref it) .none cenv)) [] s := by
  show Seg _ A _ _ _ s₀ _ ((compStart (.GeneratorExp elt (⟨tg, iter, ifs, 0⟩ :: mo) scope pos) 0 (.ref it) .none cenv).onRaise (leaving cenv)) [] s
  unfold compStart
  rw [Sem.onRaise_eq_wrap]
  show Seg _ A _ _ _ s₀ _ ((ask >>= _).wrap _ _ _ _) [] s
  refine seg_bind_wrap (wpAny_askSetting ?_)
  split
  · exact seg_again rfl loop
  · refine seg_bind_wrap (wpAny_rule ?_)
    show Seg _ A _ _ _ s₀ _ ((standAt iter.pos >>= _).wrap _ _ _ _) [] s
    exact seg_bind_wrap (wpAny_standAt (seg_bind_wrap (T.self _ 0 s _ _ st (seg_again rfl loop))))
end
abbrev GX1 (elt tg iter : Expr) (ifs : List Expr) (mo : List Comprehension) (scope : Scope) (pos : Pos) : Expr := .GeneratorExp elt (⟨tg, iter, ifs, 0⟩ :: mo) scope pos
theorem genG_eq (elt tg iter : Expr) (ifs : List Expr) (mo : List Comprehension) (scope : Scope) (pos : Pos) (env : Env) (hco : scope.isCoroutine = false) : eval (GX1 elt tg iter ifs mo scope pos) env =
    (eval iter env >>= fun x => standAt iter.pos >>= fun _ => genFold iter env x >>= fun x => holding [x] (pyIter x) >>= fun it => enterFrame >>= fun _ => closureFor scope env >>= fun cl => genexprCode env pos (env.qual ++ "<genexpr>") scope >>= fun code => builtinsFor env.globals env.builtins >>= fun bi =>
      newFunctionEnv scope env.globals cl [(".0", it)] (env.qual ++ "<genexpr>.") none code none bi >>= fun cenv => newGenerator (.compStart (GX1 elt tg iter ifs mo scope pos) 0 it .none cenv) "<genexpr>" (env.qual ++ "<genexpr>")) := by
  rw [arm_eval_GeneratorExp]
  simp only [hco, Bool.false_eq_true, if_false]
  cases iter <;> rfl
theorem genG_make {M : Model} {A : Around} {E : Value → Shared → Prop} {s : Shared} {env : Env} {elt tg iter : Expr} {ifs : List Expr} {mo : List Comprehension} {scope : Scope} {cl : List (Str × Addr)} {pos : Pos} {Q : Value → Shared → Prop} (hco : scope.isCoroutine = false) (hc : closureFor scope env = pure cl) (nc : ∀ y ∈ scope.names, y.2 ≠ .cell)
    (h0 : scope.names.lookup (".0" : Str) = some NameKind.local) (hk : scope.kind = .function) (hroom : A.depth < recursionLimit) (hs : ∀ x, genFold iter env x = pure x)
    (h : wpAny M A (eval iter env) (fun xv s₁ => wpAny M A (pyIter xv) (fun it s₂ => s₂.heap.NoLimit ∧ wpAny M A (genexprCode env pos (env.qual ++ "<genexpr>") scope) (fun code s₃ => wpAny M A (builtinsFor env.globals env.builtins) (fun bi s₄ =>
      ∀ h', h'.Ns s₄.heap.objs.size (fun y => if y = ".0" then some it else none) → Heap.SameBut s₄.heap.objs.size (s₄.heap.push { cls := .type "frame", data := .dict #[] }) h' → Q (.ref h'.objs.size) { s₄ with
        gens := s₄.gens.push (.fresh (.compStart (GX1 elt tg iter ifs mo scope pos) 0 it .none (genEnv scope cl s₄.heap.objs.size code bi env))), toks := s₄.toks + 1 + 1 + 1,
        heap := h'.push { cls := .type "generator", data := .fields #[.int s₄.gens.size 0, .str "<genexpr>" (s₄.toks + 1), .str (env.qual ++ "<genexpr>") (s₄.toks + 1 + 1)] } }) E s₃) E s₂) E s₁) E s) :
    wpAny M A (eval (GX1 elt tg iter ifs mo scope pos) env) Q E s := by
  rw [genG_eq _ _ _ _ _ _ _ _ hco, hc]
  refine wpAny_bind (wpAny_mono h (fun xv s₁ q₁ => wpAny_bind (wpAny_standAt (wpAny_bind (wpAny_of_eq (hs xv) (wpAny_bind (wpAny_holding (wpAny_mono q₁ (fun it s₂ q₂ => ?_) fun _ _ e => e))))))) fun _ _ e => e)
  refine wpAny_bind (wpAny_enterFrame q₂.1 hroom (wpAny_bind (wpAny_pure (wpAny_bind (wpAny_mono q₂.2 (fun code s₃ q₃ => wpAny_bind (wpAny_mono q₃ (fun bi s₄ q₄ => ?_) fun _ _ e => e)) fun _ _ e => e)))))
  have hb : ∀ y ∈ ([((".0" : Str), it)] : List (Str × Value)), scope.names.lookup y.1 = some NameKind.local := fun y hy => by
    rw [List.mem_singleton.mp hy]; exact h0
  refine wpAny_bind (wpAny_newFunctionEnv nc hb (fun h' hn' hs' => ?_) hk)
  have e : (fun y : Str => ([((".0" : Str), it)] : List (Str × Value)).reverse.lookup y) = fun y : Str => if y = (".0" : Str) then some it else none := funext fun y => by
    by_cases hy : y = ".0"
    · rw [hy]; rfl
    · have z : (y == (".0" : Str)) = false := by simpa using hy
      simp [List.lookup, z, hy]
  rw [e] at hn'
  simp only [newGenerator, newFields]
  exact wpAny_bind (wpAny_newGen (wpAny_bind (wpAny_mkText (wpAny_bind (wpAny_mkText (wpAny_newObj_type (q₄ h' hn' hs') (by size_fits)))))))
section
variable {X : Cx} {pins : List (Addr × Obj)} {σ : L2.St} {H : Hp} {s : Shared}
abbrev GTy := YTy → (Hp → Hp → Prop) → (Nat → Nat → Hp → Hp → Prop) → Prop
theorem among_other {pos p' : Pos} {c : Value} (l : List Value) (h : TriplesOk l) (hn : ¬ (p'.line = pos.line ∧ p'.col = pos.col)) : codeAmong p' (l ++ [rawInt pos.line, rawInt pos.col, c]) = codeAmong p' l := by
  fun_induction TriplesOk l with
  | case1 =>
    simp only [List.nil_append, rawInt, codeAmong]
    rw [if_neg]
    intro z
    simp only [Bool.and_eq_true, beq_iff_eq] at z
    exact hn ⟨by omega, by omega⟩
  | case2 a t1 b t2 c' rest ih =>
    simp only [List.cons_append, codeAmong]
    split
    · rfl
    · exact ih h
  | case3 => exact h.elim
/-- the table has grown by the code of the place (l, c), if at all -/
def TabdX (P : Addr) (gp : Nat × Nat) (H H' : Hp) : Prop := GxR.Tabbed P H H' ∧ ∀ ps : Array Value, H P = some (.tbl ps) → ∃ ps' : Array Value, H' P = some (.tbl ps') ∧ ∀ p' : Pos, (p'.line, p'.col) ≠ gp → codeAmong p' ps'.toList = codeAmong p' ps.toList
/-- what a generator expression that was made is to the frame that made it: wherever its heap still is so and it was not begun, it is ready to whatever its turns give -/
def GMade (X : Cx) (pins : List (Addr × Obj)) (σ : L2.St) (vs : List Nat) (GT : GTy) (H2 : Hp) (u : Value) (s5 : Shared) : Prop :=
  ∃ (a : Addr) (go : Obj) (g : Nat) (gs : GenState) (GX : Cx) (fp : List Addr), u = .ref a ∧ GX.prog = X.prog ∧ GX.w = X.w ∧ (∀ h : Heap, h.get? a = some go → h.IsGen a g) ∧ (a, go) ∈ GX.pn ∧ Inv GX [] (wipe σ vs) H2 s5 ∧ (∀ b ∈ fp, H2 b = none) ∧ s5.gens[g]? = some gs ∧ gs.bare = true ∧ (∀ b ∈ fp, ∃ o, s5.heap.get? b = some o) ∧
    (∀ (s' : Shared) (H' : Hp), Inv GX [] (wipe σ vs) H' s' → (∀ b ∈ fp, H' b = none) → s'.gens[g]? = some gs → (∀ b ∈ fp, ∀ o, s5.heap.get? b = some o → s'.heap.get? b = some o) → ∀ Yd Qd W m, W 0 m H' H' → GT Yd Qd W → GReady GX X.A.in1.in1 (wipe σ vs) fp Qd Yd g (m + 1) s') ∧
    ∀ s' H', Inv GX [] (wipe σ vs) H' s' → (∀ b ∈ fp, H' b = none) → Inv X pins σ H' s'
theorem gen_makeG {c P : Addr} {mo : List Comprehension} {GT : L2.It → GTy} {elt tg iter : Expr} {ifs : List Expr} {scope : Scope} {own : List (Str × Nat)} {gpos : Pos} {wi : TI} {k : Nat} {Q' : Value → Shared → Prop}
    (hr : Room k X.A) (hc : X.calm = true) (hN : X.N.Nodup) (TB : GxR.TabB X.base X.mg c P) (hcode : X.env.code = .ref c) (ok : BlkOk X.N X.env.scope scope own) (nc : ∀ y ∈ scope.names, y.2 ≠ .cell) (dot : (".0" : Str) ∉ X.N) (dot0 : scope.names.lookup (".0" : Str) = some NameKind.local) (hco : scope.isCoroutine = false)
    (hi : PI X tg iter wi) (hs : ∀ v, genFold iter X.env v = pure v)
    (hseg : ∀ (s0 : Shared) (H0 : Hp) (C : Addr) (code : Value) (fp : List Addr) (pn : List (Addr × Obj)) (it : Addr) (tn : Nat → Heap → Prop) (J : L2.It), Turn X.prog X.w X.K tg J fp it tn → (∀ p ∈ pn, p.1 ∉ fp) → ∀ Yd Qd W, GT J Yd Qd W → ∀ (m : Nat) (s₀ s : Shared) (H₀ H : Hp),
      Inv (genCx X X.A.in1.in1 s0 H0 (genEnv scope (cloFrom X.env.cells scope.names []) C code builtinsNs X.env) fp pn) [] (wipe σ (own.map (·.2))) H₀ s₀ → Inv (genCx X X.A.in1.in1 s0 H0 (genEnv scope (cloFrom X.env.cells scope.names []) C code builtinsNs X.env) fp pn) [] (wipe σ (own.map (·.2))) H s → tn 0 s.heap → (∀ b ∈ fp, H b = none) → W 0 m H₀ H →
      Seg (model X.prog X.w) X.A.in1.in1 (GEndI (genCx X X.A.in1.in1 s0 H0 (genEnv scope (cloFrom X.env.cells scope.names []) C code builtinsNs X.env) fp pn) (wipe σ (own.map (·.2))) fp Qd) (GYldI (genCx X X.A.in1.in1 s0 H0 (genEnv scope (cloFrom X.env.cells scope.names []) C code builtinsNs X.env) fp pn) (wipe σ (own.map (·.2))) fp Yd) (m + 1) s₀
        (.compLoop (GX1 elt tg iter ifs mo scope gpos) 0 (.ref it) .none (genEnv scope (cloFrom X.env.cells scope.names []) C code builtinsNs X.env)) ((model X.prog X.w).den (.compLoop (GX1 elt tg iter ifs mo scope gpos) 0 (.ref it) .none (genEnv scope (cloFrom X.env.cells scope.names []) C code builtinsNs X.env))) [] s)
    (I : Inv X pins σ H s)
    {R : Hp → GTy → Prop} (h : wi σ H fun J H1 => GxR.TabG H1 P ∧ ∀ H2, TabdX P (gpos.line, gpos.col) H1 H2 → R H2 (GT J))
    (hQ : ∀ H2 GT u s5, R H2 GT → GMade X pins σ (own.map (·.2)) GT H2 u s5 → Q' u s5) :
    wpAny (model X.prog X.w) X.A (eval (.GeneratorExp elt (⟨tg, iter, ifs, 0⟩ :: mo) scope gpos) X.env) Q' X.xe s := by
  have hfree : ∀ y ∈ scope.names, y.2 = .free → ∃ c, X.env.cells.lookup y.1 = some c := fun y hy e => (ok.free y hy e).elim (fun k => I.ok.has _ (.inl k)) fun k => I.ok.has _ (.inr k)
  refine genG_make hco (closure_ok hfree) nc dot0 ok.kind (by have := hr.dp; omega) hs ?_
  refine thn (hi.run pins s σ H _ I h) fun xv s1 hx => thn hx fun itv s2 h2 => ?_
  obtain ⟨it, fp, tn, J, H1, rfl, I2, T, st2, f2, hT, q⟩ := h2
  obtain ⟨ps, hP, ht⟩ := id hT
  have hPs : s2.heap.get? P = some { cls := .none, data := .fields ps } := I2.hok P _ hP
  have cd : PySem.W.CodeHd s2.heap c P := TB.code.keeps fun b u e => I2.bk b u e
  have lim2 : s2.heap.NoLimit := I2.nolimit
  have nP : ∀ b ∈ fp, b ≠ P := fun b hb e => by
    have := (f2 b hb).1
    rw [e, hP] at this; cases this
  have cont : ∀ (code : Value) (h3 : Heap) (tk : Nat) (ps' : Array Value), Heap.ExtBut P s2.heap h3 → s2.heap.objs.size ≤ h3.objs.size → h3.get? P = some { cls := .none, data := .fields ps' } → (∃ more, ps' = ps ++ more ∧ ∀ p' : Pos, (p'.line, p'.col) ≠ (gpos.line, gpos.col) → codeAmong p' (ps ++ more).toList = codeAmong p' ps.toList) → TriplesOk ps'.toList →
      wpAny (model X.prog X.w) X.A (builtinsFor X.env.globals X.env.builtins) (fun bi s4 => ∀ h', h'.Ns s4.heap.objs.size (fun y => if y = (".0" : Str) then some (.ref it) else none) → Heap.SameBut s4.heap.objs.size (s4.heap.push { cls := .type "frame", data := .dict #[] }) h' →
        Q' (.ref h'.objs.size) { s4 with
          gens := s4.gens.push (.fresh (.compStart (.GeneratorExp elt (⟨tg, iter, ifs, 0⟩ :: mo) scope gpos) 0 (.ref it) .none (genEnv scope (cloFrom X.env.cells scope.names []) s4.heap.objs.size code bi X.env))),
          toks := s4.toks + 1 + 1 + 1,
          heap := h'.push { cls := .type "generator", data := .fields #[.int s4.gens.size 0, .str "<genexpr>" (s4.toks + 1), .str (X.env.qual ++ "<genexpr>") (s4.toks + 1 + 1)] } }) X.xe { s2 with heap := h3, toks := tk } := by
    intro code h3 tk ps' hx hsz hP3 hmore ht3
    have hfr := I.ok.frames
    obtain ⟨more, rfl, hother⟩ := hmore
    obtain ⟨bm, ob, e1, e2, e3, e4, e5, e6, e7, e8⟩ := TB.bm
    have keep3 : ∀ b u, b ≠ P → s2.heap.get? b = some u → h3.get? b = some u := fun b u hb e => hx b u hb e
    have I3 : Inv X pins σ (upd H1 P (.tbl (ps ++ more))) { s2 with heap := h3, toks := tk } := GxR.inv_tab (more := more) (h' := h3) (g' := s2.gens) (d' := s2.drawn) (t' := tk) I2 hP (fun b u hb e => keep3 b u hb e) hP3 I2.bare
    have tabbed : TabdX P (gpos.line, gpos.col) H1 (upd H1 P (.tbl (ps ++ more))) := ⟨⟨⟨ps ++ more, upd_same, ht3⟩, fun b hb => upd_ne hb⟩, fun ps0 h0 => ⟨ps ++ more, upd_same, fun p' hp' => by rw [hP] at h0; cases h0; exact hother p' hp'⟩⟩
    have st3 : tn 0 h3 := T.keep _ _ _ st2 fun b hb o e => keep3 b o (nP b hb) e
    have f3 : ∀ b ∈ fp, FpOk X pins (upd H1 P (.tbl (ps ++ more))) b ∧ b < h3.objs.size := fun b hb => by
      obtain ⟨o, e, _⟩ := T.obj _ _ st3 b hb
      exact ⟨⟨by rw [upd_ne (nP b hb)]; exact (f2 b hb).1, (f2 b hb).2⟩, Heap.lt_size e⟩
    refine wpAny_builtinsFor (m := X.mg) (by rw [I3.ok.glob]; exact I3.mod.glob.keeps I3.bk) e1 e2 (I3.bk _ _ e5) e6 e7 e8 ?_
    intro h' hn' hs'
    have hsz' : h'.objs.size = h3.objs.size + 1 := by rw [hs'.1, Heap.size_push]
    have keep' : ∀ b o, h3.get? b = some o → h'.get? b = some o := fun b o e => hs'.extBut b o (Nat.ne_of_lt (Heap.lt_size e)) (Heap.get?_push_of_some _ e)
    generalize hgo : ({ cls := .type "generator", data := .fields #[.int s2.gens.size 0, .str "<genexpr>" (tk + 1), .str (X.env.qual ++ "<genexpr>") (tk + 1 + 1)] } : Obj) = go
    have hgen : ∀ h : Heap, h.get? h'.objs.size = some go → h.IsGen h'.objs.size s2.gens.size := fun h e => ⟨go, _, _, e, by rw [← hgo], by rw [← hgo], by rw [← hgo]⟩
    have hpush : (h'.push go).get? h'.objs.size = some go := by rw [← hgo]; exact Heap.get?_push_size _ rfl
    have kp5 : ∀ b o, h3.get? b = some o → (h'.push go).get? b = some o := fun b o e => Heap.get?_push_of_some _ (keep' b o e)
    have hn5 : (h'.push go).Ns h3.objs.size (fun y => if y = (".0" : Str) then some (.ref it) else none) := hn'.keeps fun b o e => Heap.get?_push_of_some _ e
    have IG := gen_start (A := X.A.in1.in1) (code := code) (it := .ref it) (h' := h'.push go) (g' := s2.gens.push (.fresh (.compStart (.GeneratorExp elt (⟨tg, iter, ifs, 0⟩ :: mo) scope gpos) 0 (.ref it) .none (genEnv scope (cloFrom X.env.cells scope.names []) h3.objs.size code builtinsNs X.env)))) (tk' := tk + 1 + 1 + 1) (d' := s2.drawn) I3 ok nc hN dot f3 hfr hr.hd hn5 kp5 (AllBare.push I2.bare rfl)
    have old : ∀ b ∈ frs X.stack, b < h3.objs.size := fun b hb => by
      rcases List.mem_cons.mp (I3.stkSub b hb) with z | z
      · rw [z]; exact I3.lt
      · obtain ⟨_, o, ho, _⟩ := I3.funs.mem z
        exact Heap.lt_size ho
    have IP := gen_pin (pn := [(h'.objs.size, go)]) IG fun p hp => by
      rw [List.mem_singleton.mp hp]
      refine ⟨hpush, I3.hok.fresh (by show h3.objs.size ≤ h'.objs.size; omega), by show h'.objs.size ≠ h3.objs.size; omega, fun z => ?_, fun v e => by rw [← hgo] at e; cases e⟩
      have hlt5 : h'.objs.size < h3.objs.size := old _ z
      have e5' : h'.objs.size = h3.objs.size + 1 := hsz'
      rw [e5'] at hlt5
      exact absurd hlt5 (by omega)
    have nf : ∀ b ∈ fp, upd H1 P (.tbl (ps ++ more)) b = none := fun b hb => (f3 b hb).1.1
    have st5 : tn 0 (h'.push go) := T.keep _ _ _ st3 fun b _ o e => kp5 b o e
    refine hQ _ _ _ _ (q _ tabbed) ⟨h'.objs.size, go, s2.gens.size, _, genCx X X.A.in1.in1 { s2 with heap := h3, toks := tk } (upd H1 P (.tbl (ps ++ more))) (genEnv scope (cloFrom X.env.cells scope.names []) h3.objs.size code builtinsNs X.env) fp [(h'.objs.size, go)], fp, rfl, rfl, rfl, hgen, List.mem_singleton.mpr rfl, IP, nf, Array.getElem?_push_size .., rfl, fun b hb => ?_, fun s' H' I6 nf6 hg6 k6 Yd Qd W m w0 turns => ⟨_, H', I6, nf6, hg6, rfl, ?_⟩, fun s' H' I6 _ => ?_⟩
    · obtain ⟨o, e, _⟩ := T.obj _ _ st5 b hb
      exact ⟨o, e⟩
    · have st6 : tn 0 (s'.setGen s2.gens.size .running).heap := T.keep _ _ _ st5 k6
      refine seg_start1 T st6 (hseg _ _ _ _ _ _ _ _ _ T (fun p hp hb => ?_) Yd Qd W turns m _ (s'.setGen s2.gens.size .running) _ _ (inv_setGen I6 rfl) (inv_setGen I6 rfl) st6 nf6 w0)
      rw [List.mem_singleton.mp hp] at hb
      have := (f3 _ hb).2
      have e : h'.objs.size < h3.objs.size := this
      omega
    · exact I3.call' (ch := fp) I6.os I6.base I6.hok I6.bare fun b hb => ⟨(f3 b hb).1.2.2.2.1, (f3 b hb).1.2.1, (f3 b hb).1.2.2.2.2.1, (f3 b hb).1.2.2.2.2.2⟩
  cases hf : codeAmong gpos ps.toList with
  | none =>
    refine ⟨lim2, wpAny_genexprCodeX hcode (cd.code hPs ht) (cd.tab hPs) hf fun c' h' tk hx hge hlt hco' _ htab' _ => ?_⟩
    obtain ⟨o1, vs, f1, tf, fl, tg1, inF, tx, tt1, op, _, _, _, _, _, _, _, _, _, htr, _⟩ := hco'
    exact cont _ h' tk _ hx (Nat.le_trans hge (Nat.le_of_lt hlt)) htab'.2 ⟨_, rfl, fun p' hp' => by rw [Array.toList_append]; exact among_other _ ht fun z => hp' (by rw [z.1, z.2])⟩ htr
  | some cv =>
    refine ⟨lim2, wpAny_genexprCode_hit hcode (cd.code hPs ht) hf ?_⟩
    exact cont cv s2.heap s2.toks ps (Heap.ExtBut.refl _ _) (Nat.le_refl _) hPs ⟨#[], by simp, fun p' _ => by simp⟩ ht
end
end L2.Fl

namespace L2.Fl
open PySem PySem.Spec PyProof.Rows GenW

abbrev TGen := L2.St → Hp → (Hp → GTy → Prop) → Prop
/-- a generator expression is made -/
structure GM (X : Cx) (e : Expr) (vs : List Nat) (t : TGen) : Prop where
  run : ∀ (pins : List (Addr × Obj)) (s : Shared) (σ : L2.St) (H : Hp) (Q' : Value → Shared → Prop) (R : Hp → GTy → Prop), Inv X pins σ H s → t σ H R → (∀ H2 GT u s5, R H2 GT → GMade X pins σ vs GT H2 u s5 → Q' u s5) →
    wpAny (model X.prog X.w) X.A (eval e X.env) Q' X.xe s
def tGen1 (P : Addr) (gp : Nat × Nat) (vs : List Nat) (wi : TI) (g : TG) (tt : TT) (te : TE) : TGen := fun σ H R => wi σ H fun J H1 => GxR.TabG H1 P ∧ ∀ H2, TabdX P gp H1 H2 → R H2 (GTurns J (wipe σ vs) vs g tt te)
/-- what any, all need -/
def tSeekG (want : Bool) (tg : TGen) : TE := fun σ H Q => tg σ H fun H2 GT => ∃ W : Nat → Nat → Hp → Hp → Prop, (∃ m, W 0 m H2 H2) ∧ GT (YdB want (Q (.bl want))) (QdB (Q (.bl (!want)))) W
def tSumG (tg : TGen) : TE := fun σ H Q => tg σ H fun H2 GT => ∀ S, H2 S = none → ∃ W : Nat → Nat → Hp → Hp → Prop, (∃ m, W 0 m (upd H2 S (.lst [.int 0])) (upd H2 S (.lst [.int 0]))) ∧ GT (YdS S) (QdS S fun a H => Q (.int a) H) W
section
variable {X : Cx}
theorem gm_one {c P : Addr} {elt tg iter : Expr} {ifs : List Expr} {scope : Scope} {own : List (Str × Nat)} {gpos : Pos} {wi : TI} {g : TG} {tt : TT} {te : TE} {k : Nat}
    (hr : Room k X.A) (hc : X.calm = true) (hN : X.N.Nodup) (TB : GxR.TabB X.base X.mg c P) (hcode : X.env.code = .ref c) (ok : BlkOk X.N X.env.scope scope own) (nc : ∀ y ∈ scope.names, y.2 ≠ .cell) (dot : (".0" : Str) ∉ X.N) (dot0 : scope.names.lookup (".0" : Str) = some NameKind.local) (hco : scope.isCoroutine = false)
    (hi : PI X tg iter wi) (hs : ∀ v, genFold iter X.env v = pure v)
    (pg : ∀ s0 H0 C code fp pn, PG (genCx X X.A.in1.in1 s0 H0 (genEnv scope (cloFrom X.env.cells scope.names []) C code builtinsNs X.env) fp pn) tg g)
    (pt : ∀ s0 H0 C code fp pn, PTs (genCx X X.A.in1.in1 s0 H0 (genEnv scope (cloFrom X.env.cells scope.names []) C code builtinsNs X.env) fp pn) ifs tt)
    (pe : ∀ s0 H0 C code fp pn, PE (genCx X X.A.in1.in1 s0 H0 (genEnv scope (cloFrom X.env.cells scope.names []) C code builtinsNs X.env) fp pn) elt te) :
    GM X (.GeneratorExp elt [⟨tg, iter, ifs, 0⟩] scope gpos) (own.map (·.2)) (tGen1 P (gpos.line, gpos.col) (own.map (·.2)) wi g tt te) :=
  ⟨fun pins s σ H Q' R I h hQ => gen_makeG (mo := []) (GT := fun J => GTurns J (wipe σ (own.map (·.2))) (own.map (·.2)) g tt te) hr hc hN TB hcode ok nc dot dot0 hco hi hs
    (fun s0 H0 C code fp pn it tn J T hpn Yd Qd W turns m s₀ s H₀ H I0 I1 st nf w => seg_gen1 (X := X) hpn (by first | rfl | simp [Around.over, Around.deeper]) hco hc T (pg _ _ _ _ _ _) (pt _ _ _ _ _ _) (pe _ _ _ _ _ _) Yd Qd W turns m 0 (m + 1) s₀ s H₀ H (Nat.lt_succ_self _) I0 I1 st nf w) I h hQ⟩
theorem GMade.ready {pins : List (Addr × Obj)} {σ : L2.St} {vs : List Nat} {GT : GTy} {H2 : Hp} {u : Value} {s5 : Shared} {Yd : YTy} {Qd : Hp → Hp → Prop} (h : GMade X pins σ vs GT H2 u s5) (W : Nat → Nat → Hp → Hp → Prop) (hw : ∃ m, W 0 m H2 H2) (gt : GT Yd Qd W) :
    ∃ (a : Addr) (go : Obj) (g n : Nat) (GX : Cx) (fp : List Addr), u = .ref a ∧ GX.prog = X.prog ∧ GX.w = X.w ∧ (∀ h : Heap, h.get? a = some go → h.IsGen a g) ∧ (a, go) ∈ GX.pn ∧ GReady GX X.A.in1.in1 (wipe σ vs) fp Qd Yd g n s5 ∧
    ∀ s' H', Inv GX [] (wipe σ vs) H' s' → (∀ b ∈ fp, H' b = none) → Inv X pins σ H' s' := by
  obtain ⟨a, go, g, gs, GX, fp, rfl, e1, e2, hgo, hpn, I, nf, hg, hb, fo, R, back⟩ := h
  obtain ⟨m, hw⟩ := hw
  exact ⟨a, go, g, m + 1, GX, fp, rfl, e1, e2, hgo, hpn, R s5 H2 I nf hg (fun _ _ _ e => e) Yd Qd W m hw gt, back⟩
theorem pe_anyG {e : Expr} {vs : List Nat} {tg : TGen} {p pos : Pos} {k : Nat} (hr : Room k X.A) (hg : Gl X "any") (hm : X.mg "any" = none) (h : GM X e vs tg) (he : starEach [e] X.env = (false, eval e X.env) :: starEach [] X.env := by rfl) (hb : bootBuiltins "any" = some (.builtin "any") := by decide +kernel) :
    PE X (.Call (.Name "any" p) [e] [] pos) (tSeekG true tg) := by
  refine ⟨fun pins s σ H Q I q => ?_⟩
  refine wpAny_Call_Name_kw (ld_blt I hg hm hb ?_)
  refine PyProof.Rows.callWith_builtin1 ?_ he (by rfl)
  rw [he]
  show wpAny _ _ (spliced ((false, eval e X.env) :: backTo pos (starEach [] X.env))) _ _ s
  refine Calls.spliced_cons (h.run pins s σ H _ _ I q fun H2 GT u s5 q hM => ?_)
  obtain ⟨W, hw, gt⟩ := q
  obtain ⟨a, go, gi, n, GX, fp, rfl, ep, ew, hgo, hpn, R, back⟩ := hM.ready W hw gt
  refine Calls.spliced_nil ?_
  rw [← ep, ← ew]
  refine call_any_gen (hr.hd) (by have := hr.dp; omega) hgo hpn R fun b s' H' I' nf h1 h2 => ?_
  refine ⟨.bl b, H', back s' H' I' nf, rfl, ?_⟩
  cases b with
  | true => exact h1 rfl
  | false => exact h2 (by decide)
theorem pe_allG {e : Expr} {vs : List Nat} {tg : TGen} {p pos : Pos} {k : Nat} (hr : Room k X.A) (hg : Gl X "all") (hm : X.mg "all" = none) (h : GM X e vs tg) (he : starEach [e] X.env = (false, eval e X.env) :: starEach [] X.env := by rfl) (hb : bootBuiltins "all" = some (.builtin "all") := by decide +kernel) :
    PE X (.Call (.Name "all" p) [e] [] pos) (tSeekG false tg) := by
  refine ⟨fun pins s σ H Q I q => ?_⟩
  refine wpAny_Call_Name_kw (ld_blt I hg hm hb ?_)
  refine PyProof.Rows.callWith_builtin1 ?_ he (by rfl)
  rw [he]
  show wpAny _ _ (spliced ((false, eval e X.env) :: backTo pos (starEach [] X.env))) _ _ s
  refine Calls.spliced_cons (h.run pins s σ H _ _ I q fun H2 GT u s5 q hM => ?_)
  obtain ⟨W, hw, gt⟩ := q
  obtain ⟨a, go, gi, n, GX, fp, rfl, ep, ew, hgo, hpn, R, back⟩ := hM.ready W hw gt
  refine Calls.spliced_nil ?_
  rw [← ep, ← ew]
  refine call_all_gen (hr.hd) (by have := hr.dp; omega) hgo hpn R fun b s' H' I' nf h1 h2 => ?_
  refine ⟨.bl b, H', back s' H' I' nf, rfl, ?_⟩
  cases b with
  | false => exact h1 rfl
  | true => exact h2 (by decide)
theorem pe_sumG {e : Expr} {vs : List Nat} {tg : TGen} {p pos : Pos} {k : Nat} (hr : Room k X.A) (hg : Gl X "sum") (hm : X.mg "sum" = none) (h : GM X e vs tg) (he : starEach [e] X.env = (false, eval e X.env) :: starEach [] X.env := by rfl) (hb : bootBuiltins "sum" = some (.builtin "sum") := by decide +kernel) :
    PE X (.Call (.Name "sum" p) [e] [] pos) (tSumG tg) := by
  refine ⟨fun pins s σ H Q I q => ?_⟩
  refine wpAny_Call_Name_kw (ld_blt I hg hm hb ?_)
  refine PyProof.Rows.callWith_builtin1 ?_ he (by rfl)
  rw [he]
  show wpAny _ _ (spliced ((false, eval e X.env) :: backTo pos (starEach [] X.env))) _ _ s
  refine Calls.spliced_cons (h.run pins s σ H _ _ I q fun H2 GT u s5 q hM => ?_)
  obtain ⟨a, go, g, gs, GX, fp, rfl, e1, e2, hgo, hpn, I2, nf, hg2, hb2, fo, R, back⟩ := hM
  refine Calls.spliced_nil ?_
  rw [← e1, ← e2]
  refine call_sum_gen (fp := fp) (Qe := fun a H => Q (.int a) H) (hr.hd) (by have := hr.dp; omega) hgo hpn I2 (fun S s' hS hf I' hgs kp => ?_) fun x t s' H' I' nf' q' => ⟨.int x, H', back s' H' I' nf', ⟨t, rfl⟩, q'⟩
  obtain ⟨W, ⟨m, hw⟩, gt⟩ := q S hS
  refine ⟨m + 1, R s' _ I' (fun b hb => ?_) (by rw [hgs]; exact hg2) (fun b _ o e => kp b o e) _ _ W m hw gt⟩
  rw [upd_ne]
  · exact nf b hb
  · intro z
    obtain ⟨o, ho⟩ := fo b hb
    exact hf o (z ▸ ho)
end
end L2.Fl

namespace L2.Fl
open PySem PySem.Spec PyProof.Rows GenW

section
variable {B : Bc} {Z : Addr → Prop} {ρ : Fr} {σ : L2.St} {H H' : Hp} {ω : W3} {P : Addr}
/-- a table may grow -/
theorem Ext.tabbed {g : Gd} (ht : GxR.TabG H P) (t : GxR.Tabbed P H H') : Ext g H H' := by
  obtain ⟨⟨ps', h', t'⟩, o⟩ := t
  obtain ⟨ps, h, _⟩ := ht
  refine ⟨fun p u e n f => ?_, fun p e => ?_⟩
  · have ne : p ≠ P := fun z => by rw [z, h] at e; cases e; exact f ps rfl
    rw [o p ne]; exact e
  · have ne : p ≠ P := fun z => by rw [z, h'] at e; cases e
    rw [← o p ne]; exact e
theorem J.tabbed (j : J B Z ρ σ H ω) (ht : GxR.TabG H P) (t : GxR.Tabbed P H H') (hT : ∀ p ∈ B.g.T, TabP H' p) : J B Z ρ σ H' ω := by
  have ex : Ext B.g H H' := Ext.tabbed ht t
  have kz : ∀ q u, ZT Z H q → H q = some u → H' q = some u := j.good.kept ex
  obtain ⟨tg', o⟩ := t
  obtain ⟨ps, h, tr⟩ := ht
  have nd : ∀ q, B.g.pd = some q → q ≠ P := fun q e z => by have := j.good.dice q e; rw [z, h] at this; cases this
  have nown : ∀ {d : D} {q : Addr}, RO B.g.tk Z H d q → q ≠ P := fun r z => by
    obtain ⟨u, hu, f⟩ := r.there
    rw [z, h] at hu; cases hu; exact f ps rfl
  refine ⟨⟨fun q z => ?_, fun q e => by rw [o q (nd q e)]; exact j.good.dice q e, fun P' hP' => ?_⟩, j.ext.trans ex, j.z0, j.zn, j.len, fun k e ek => ?_, fun k e ek => ?_, fun q rr => ⟨(j.res q rr).1, fun z => (j.res q rr).2 (ex.dom q z)⟩, j.sep⟩
  · obtain ⟨n, u, hu, f⟩ := j.good.zs q z
    exact ⟨n, u, kz q u (.inl z) hu, f⟩
  · exact hT P' hP'
  · obtain ⟨v, q1, q2⟩ := j.val k e ek
    exact ⟨v, q1, q2.mono (fun _ z => z) kz⟩
  · obtain ⟨q, q1, q2, q3, q4, q5, q6⟩ := j.own k e ek
    exact ⟨q, q1, q2.mono (fun _ z => z) kz (fun u hu => by rw [o q (nown q2)]; exact hu), q3, q4, q5, q6⟩
end
/-- a def's table that holds no lambda's code at a place: it may be written by the making of a generator expression there -/
structure TabFree (g : Gd) (P : Addr) (gp : Nat × Nat) : Prop where
  mem : ∃ L, (P, L) ∈ g.T
  only : ∀ p ∈ g.T, p.1 = P → p.2 gp.1 gp.2 = none
theorem TabFree.tg {g : Gd} {P : Addr} {gp : Nat × Nat} {Z : Addr → Prop} {H : Hp} {ω : W3} (f : TabFree g P gp) (G : Good g Z H ω) : GxR.TabG H P := by
  obtain ⟨L, h⟩ := f.mem
  exact (G.tabs _ h).g
theorem TabFree.after {g : Gd} {P : Addr} {gp : Nat × Nat} {Z : Addr → Prop} {H H' : Hp} {ω : W3} (f : TabFree g P gp) (G : Good g Z H ω) (t : TabdX P gp H H') : ∀ p ∈ g.T, TabP H' p := fun p hp => by
  have ht := G.tabs p hp
  obtain ⟨⟨tg', o⟩, oth⟩ := t
  obtain ⟨L0, hL0⟩ := f.mem
  obtain ⟨ps0, h0, _⟩ := G.tabs _ hL0
  by_cases e : p.1 = P
  · obtain ⟨ps1, h1, tr1, cc⟩ := ht
    obtain ⟨ps', h', same⟩ := oth ps1 (by rw [← e]; exact h1)
    obtain ⟨ps, h, tr⟩ := tg'
    have : ps = ps' := by
      have hh : H' P = some (.tbl ps) := h
      rw [hh] at h'; cases h'; rfl
    subst this
    refine ⟨ps, by rw [e]; exact h, tr, fun pos cv q z1 z2 => ?_⟩
    have hne : (pos.line, pos.col) ≠ gp := fun z => by
      have := f.only p hp e
      rw [← z] at this
      rw [this] at z1; cases z1
    rw [same pos hne] at z2
    obtain ⟨c, e1, e2⟩ := cc pos cv q z1 z2
    refine ⟨c, e1, ?_⟩
    have ne : c ≠ P := fun z => by
      have h0' : H P = some (.tbl ps0) := h0
      rw [z, h0'] at e2; cases e2
    rw [o _ ne]; exact e2
  · obtain ⟨ps, h, tr, cc⟩ := ht
    refine ⟨ps, by rw [o _ e]; exact h, tr, fun pos cv q z1 z2 => ?_⟩
    obtain ⟨c, e1, e2⟩ := cc pos cv q z1 z2
    refine ⟨c, e1, ?_⟩
    have ne : c ≠ P := fun z => by
      have h0' : H P = some (.tbl ps0) := h0
      rw [z, h0'] at e2; cases e2
    rw [o _ ne]; exact e2
/-- a consumer of a generator expression of one clause -/
def foldG {α : Type} (vs : List Nat) (t : TM) (tt : EM Bool) (te : EM D) (f : α → D → Option (Sum α D)) : List D → α → EM (Sum α D)
  | [], a => fun ρ ω => .ok (.inl a) ρ ω
  | d :: ds, a => fun ρ ω => match t d ρ with
    | none => .bad
    | some ρ1 => (tt ρ1 ω).thenB fun b ρ2 ω2 => match b with
      | false => foldG vs t tt te f ds a (wipeF vs ρ2) ω2
      | true => (te ρ2 ω2).thenB fun x ρ3 ω3 => match f a x with
        | none => .bad
        | some (.inr d) => .ok (.inr d) (wipeF vs ρ3) ω3
        | some (.inl a') => foldG vs t tt te f ds a' (wipeF vs ρ3) ω3
def endG {α : Type} (fin : α → D) : Sum α D → D
  | .inl a => fin a
  | .inr d => d
def foldM {α : Type} (vs : List Nat) (it : EM (List D)) (t : TM) (tt : EM Bool) (te : EM D) (f : α → D → Option (Sum α D)) (a0 : α) (fin : α → D) : EM D := fun ρ ω => (it ρ ω).andThen fun ds ρ1 ω1 =>
  if noOwn vs ρ1 then (foldG vs t tt te f ds a0 (wipeF vs ρ1) ω1).thenB fun x ρ2 ω2 => .ok (endG fin x) (restF vs ρ1 ρ2) ω2 else .bad
def seekF (want : Bool) (_ : Unit) (d : D) : Option (Sum Unit D) := match d with
  | .bl b => if b = want then some (.inr (.bl want)) else some (.inl ())
  | _ => none
def sumF (a : Int) (d : D) : Option (Sum Int D) := match d with
  | .int b => some (.inl (a + b))
  | _ => none
def seekM (want : Bool) (vs : List Nat) (it : EM (List D)) (t : TM) (tt : EM Bool) (te : EM D) : EM D := foldM vs it t tt te (seekF want) () fun _ => .bl (!want)
def sumM (vs : List Nat) (it : EM (List D)) (t : TM) (tt : EM Bool) (te : EM D) : EM D := foldM vs it t tt te sumF 0 D.int
/-- how a consumer stands to the heap: AR tells where its state is; Up is what it writes itself -/
structure CRel {α : Type} (B : Bc) (Ha : Hp) (f : α → D → Option (Sum α D)) (AR : α → Hp → Prop) (Up : Hp → Hp → Prop) (Yd : YTy) (Qd : Hp → Hp → Prop) (Qe : α → Hp → Prop) (Qs : D → Hp → Prop) : Prop where
  keep : ∀ a H H', AR a H → Ext B.g H H' → AR a H'
  up : ∀ (Z : Addr → Prop) (ρ : Fr) (σ : L2.St) (H H' : Hp) (ω : W3), J B Z ρ σ H ω → Up H H' → J B Z ρ σ H' ω ∧ Kp Z H Z H' ∧ (Ext B.g Ha H → Ext B.g Ha H')
  step : ∀ a d x H₀ H (Nx : Hp → Prop) (Z : Addr → Prop), RD B.g.tk Z H d x → AR a H₀ → AR a H → (match f a d with
    | none => False
    | some (.inr e) => Qs e H
    | some (.inl a') => ∀ H', Up H H' → AR a' H' → Nx H') → Yd H₀ x H Nx
  fin : ∀ a H₀ H, AR a H₀ → AR a H → Qe a H → Qd H₀ H
def FPost {α : Type} (B : Bc) (σw : L2.St) (Za : Addr → Prop) (Ha : Hp) (o : Out (Sum α D)) (Qe : α → Hp → Prop) (Qs : D → Hp → Prop) : Prop := match o with
  | .ok r ρ ω => ∀ (Z' : Addr → Prop) (H' : Hp), J B Z' ρ σw H' ω → Kp Za Ha Z' H' → Ext B.g Ha H' → match r with
    | .inl a => Qe a H'
    | .inr d => Qs d H'
  | _ => False
section
variable {α : Type} {B : Bc} {R : Addr → Prop} {vs slots : List Nat} {σ : L2.St} {t : TM} {tt : EM Bool} {te : EM D} {f : α → D → Option (Sum α D)} {AR : α → Hp → Prop} {Up : Hp → Hp → Prop} {Yd : YTy} {Qd : Hp → Hp → Prop} {Qe : α → Hp → Prop} {Qs : D → Hp → Prop}
theorem fold_loop {It : L2.It} {ds : List D} {Za : Addr → Prop} {Ha H1 : Hp} {ρ : Fr} {ω : W3} {a0 : α} (hsl : ∀ i ∈ slots, i ∈ vs)
    (w : Wk B.g (fun Z H => Kp Za Ha Z H ∧ Ext B.g Ha H) It ds) (c : CRel (B.blk R) Ha f AR Up Yd Qd Qe Qs) (ja : J (B.blk R) Za ρ (L2.wipe σ vs) H1 ω) (ka : Kp Za Ha Za H1) (ea : Ext B.g Ha H1) (ar : AR a0 H1)
    (hq : FPost (B.blk R) (L2.wipe σ vs) Za Ha (foldG vs t tt te f ds a0 ρ ω) Qe Qs) :
    ∃ W : Nat → Nat → Hp → Hp → Prop, (∃ m, W 0 m H1 H1) ∧ GTurns It (L2.wipe σ vs) vs (ExG B t slots) (ExT B tt) (ExE B te) Yd Qd W := by
  obtain ⟨G, Y, w1, w2, w3⟩ := w
  let Pv : Nat → Hp → Hp → Prop := fun i H₀ H => ∃ Z ρ ω a, J (B.blk R) Z ρ (L2.wipe σ vs) H ω ∧ Kp Za Ha Z H ∧ Ext B.g Ha H ∧ AR a H₀ ∧ AR a H ∧ FPost (B.blk R) (L2.wipe σ vs) Za Ha (foldG vs t tt te f (ds.drop i) a ρ ω) Qe Qs
  refine ⟨fun i m H₀ H => m = ds.length - i ∧ i ≤ ds.length ∧ Pv i H₀ H, ⟨ds.length, by simp, Nat.zero_le _, Za, ρ, ω, a0, ja, ka, ea, ar, ar, by rw [List.drop_zero]; exact hq⟩, ?_⟩
  rintro i m H₀ H ⟨rfl, hi, Z, ρ, ω, a, jj, k1, e1, ar0, ar1, hq⟩
  have hG := w2 Z H ⟨k1, e1⟩
  by_cases hlt : i < ds.length
  · refine .inr ⟨w1.goes i H hlt hG, Pv (i + 1), fun H₀' H' p' => ⟨ds.length - (i + 1), by omega, rfl, hlt, p'⟩, fun x H' y => ?_⟩
    obtain ⟨Z3, d, gr, hd, rd⟩ := w3 i H x H' Z ω hlt jj.good ⟨k1, e1⟩ (w1.yields i H x H' hlt hG y)
    have j3 : J (B.blk R) Z3 ρ (L2.wipe σ vs) H' ω := jj.grow (B := B.blk R) gr
    have kk3 : Kp Z H Z3 H' := .of jj.good gr.sub gr.ext
    have hd' : ds.drop i = d :: ds.drop (i + 1) := by
      rw [List.drop_eq_getElem_cons hlt]
      obtain ⟨_, e⟩ := List.getElem?_eq_some_iff.mp hd
      rw [e]
    rw [hd'] at hq
    unfold foldG at hq
    refine ⟨R, Z3, ρ, ω, d, j3, rd, ?_⟩
    cases et : t d ρ with
    | none => simp only [et] at hq; exact hq
    | some ρ4 =>
      simp only [et] at hq
      intro σ4 h4 l4 j4
      have hw4 : L2.wipe σ4 vs = L2.wipe σ vs := wipe_eq (fun j hj => h4 j fun z => hj (hsl j z)) l4
      refine ⟨hw4, R, Z3, ρ4, ω, j4, ?_⟩
      cases eb : tt ρ4 ω with
      | bad => simp only [eb, Out.thenB] at hq; exact hq
      | exc c ω' => simp only [eb, Out.thenB] at hq; exact hq.elim
      | ok b ρ5 ω5 =>
        simp only [eb, Out.thenB] at hq
        intro Z5 H5 x5 z5 j5
        have e5 : Ext B.g H H5 := gr.ext.trans x5
        have k5 : Kp Z H Z5 H5 := kk3.trans (.of j4.good z5 x5)
        cases b with
        | false =>
          simp only at hq
          simp only [Bool.false_eq_true, if_false]
          exact ⟨Z5, wipeF vs ρ5, ω5, a, by rw [← hw4]; exact j5.wipe vs, k1.trans k5, e1.trans e5, ar0, c.keep _ _ _ ar1 e5, hq⟩
        | true =>
          simp only at hq
          simp only [if_true]
          refine ⟨R, Z5, ρ5, ω5, j5, ?_⟩
          cases ee : te ρ5 ω5 with
          | bad => simp only [ee] at hq; exact hq
          | exc c ω' => simp only [ee] at hq; exact hq.elim
          | ok v ρ6 ω6 =>
            simp only [ee] at hq
            intro Z6 y6 H6 x6 z6 j6 r6
            have k6 : Kp Z H Z6 H6 := k5.trans (.of j5.good z6 x6)
            have e6 : Ext B.g H H6 := e5.trans x6
            have jw : J (B.blk R) Z6 (wipeF vs ρ6) (L2.wipe σ vs) H6 ω6 := by rw [← hw4]; exact j6.wipe vs
            refine c.step a v y6 H₀ H6 _ Z6 r6 ar0 (c.keep _ _ _ ar1 e6) ?_
            cases ef : f a v with
            | none => simp only [ef] at hq; exact hq
            | some s =>
              cases s with
              | inr e => simp only [ef] at hq; exact hq Z6 H6 jw (k1.trans k6) (e1.trans e6)
              | inl a' =>
                simp only [ef] at hq
                intro H7 u7 ar7
                obtain ⟨j7, k7, x7⟩ := c.up _ _ _ _ _ _ jw u7
                exact ⟨Z6, wipeF vs ρ6, ω6, a', j7, (k1.trans k6).trans k7, x7 (e1.trans e6), ar7, ar7, hq⟩
  · have hi' : i = ds.length := by omega
    subst hi'
    rw [List.drop_length] at hq
    exact .inl ⟨w1.stops H hG, c.fin a H₀ H ar0 ar1 (hq Z H jj k1 e1)⟩
theorem crel_seek {want : Bool} {Q : VK} {Ha : Hp} : CRel B Ha (seekF want) (fun _ _ => True) (fun H H' => H' = H) (YdB want (Q (.bl want))) (QdB (Q (.bl (!want)))) (fun _ H => Q (.bl (!want)) H) (fun d H => d = .bl want ∧ Q (.bl want) H) where
  keep := fun _ _ _ _ _ => trivial
  up := fun Z ρ σ H H' ω j e => by subst e; exact ⟨j, .refl, fun h => h⟩
  step := fun a d x H₀ H Nx Z rd _ _ h => by
    cases d with
    | bl b =>
      have ex : x = .bl b := BR.bl (g := B.g) (.inl rd)
      refine ⟨b, ex, fun hb => ?_, fun hb => ?_⟩
      · subst hb
        simp only [seekF, if_true] at h
        exact h.2
      · simp only [seekF, if_neg hb] at h
        exact h H rfl trivial
    | _ => simp only [seekF] at h
  fin := fun _ _ _ _ _ h => h
theorem crel_sum {Q : VK} {Ha : Hp} {S : Addr} (hR : B.Rz S) (h0 : B.H0 S = none) (np : B.g.pd ≠ some S) (ha : Ha S = none) : CRel B Ha sumF (fun a H => H S = some (.lst [.int a])) (fun H H' => ∃ a b, H S = some (.lst [.int a]) ∧ H' = upd H S (.lst [.int b])) (YdS S) (QdS S fun a H => Q (.int a) H) (fun a H => Q (.int a) H) (fun _ _ => False) where
  keep := fun a H H' h e => e.keep S _ h np fix_lst
  up := fun Z ρ σ H H' ω j ⟨a, b, e1, e2⟩ => by
    subst e2
    refine ⟨j.updR hR h0 np e1 fix_lst, kp_upd (j.res S hR).1, fun x => ⟨fun p o h n f => ?_, fun p h => ?_⟩⟩
    · rw [upd_ne (ne_of_none h ha)]; exact x.keep p o h n f
    · by_cases e : p = S
      · rw [e]; exact ha
      · rw [upd_ne e] at h; exact x.dom p h
  step := fun a d x H₀ H Nx Z rd e0 e1 h => by
    cases d with
    | int b =>
      have ex : x = .int b := BR.int (g := B.g) (.inl rd)
      refine ⟨a, b, e0, ex, e1, h _ ⟨a, a + b, e1, rfl⟩ upd_same⟩
    | _ => simp only [sumF] at h
  fin := fun a H₀ H e0 e1 h => ⟨a, e0, e1, h⟩
end
section
variable {B : Bc} {vs slots : List Nat} {t : TM} {tt : EM Bool} {te : EM D}
theorem seek_inr {want : Bool} {x : D} {ρ2 : Fr} {ω2 : W3} : ∀ {ds : List D} {a : Unit} {ρ : Fr} {ω : W3}, foldG vs t tt te (seekF want) ds a ρ ω = .ok (.inr x) ρ2 ω2 → x = .bl want := by
  intro ds
  induction ds with
  | nil => intro a ρ ω h; cases h
  | cons d ds ih =>
    intro a ρ ω h
    unfold foldG at h
    split at h
    · cases h
    · rename_i ρ1 _
      cases eb : tt ρ1 ω with
      | bad => rw [eb] at h; cases h
      | exc c ω' => rw [eb] at h; cases h
      | ok b ρ5 ω5 =>
        simp only [eb, Out.thenB] at h
        cases b with
        | false => exact ih h
        | true =>
          simp only at h
          cases ee : te ρ5 ω5 with
          | bad => simp only [ee] at h; cases h
          | exc c ω' => simp only [ee] at h; cases h
          | ok v ρ6 ω6 =>
            simp only [ee] at h
            cases v with
            | bl b =>
              simp only [seekF] at h
              by_cases hb : b = want
              · simp only [if_pos hb] at h; cases h; rfl
              · simp only [if_neg hb] at h; exact ih h
            | _ => simp only [seekF] at h; cases h
theorem sum_inl {s : Sum Int D} {ρ2 : Fr} {ω2 : W3} : ∀ {ds : List D} {a : Int} {ρ : Fr} {ω : W3}, foldG vs t tt te sumF ds a ρ ω = .ok s ρ2 ω2 → ∃ x, s = .inl x := by
  intro ds
  induction ds with
  | nil => intro a ρ ω h; cases h; exact ⟨_, rfl⟩
  | cons d ds ih =>
    intro a ρ ω h
    unfold foldG at h
    split at h
    · cases h
    · rename_i ρ1 _
      cases eb : tt ρ1 ω with
      | bad => rw [eb] at h; cases h
      | exc c ω' => rw [eb] at h; cases h
      | ok b ρ5 ω5 =>
        simp only [eb, Out.thenB] at h
        cases b with
        | false => exact ih h
        | true =>
          simp only at h
          cases ee : te ρ5 ω5 with
          | bad => simp only [ee] at h; cases h
          | exc c ω' => simp only [ee] at h; cases h
          | ok v ρ6 ω6 =>
            simp only [ee] at h
            cases v with
            | int b => simp only [sumF] at h; exact ih h
            | _ => simp only [sumF] at h; cases h
theorem J.genStart {Z : Addr → Prop} {ρ : Fr} {σ : L2.St} {H H2 : Hp} {ω : W3} {P : Addr} {gp : Nat × Nat} (j : J B Z ρ σ H ω) (f : TabFree B.g P gp) (ht : TabdX P gp H H2) : J B Z ρ σ H2 ω := j.tabbed (f.tg j.good) ht.1 (f.after j.good ht)
theorem i_seek {want : Bool} {it : EM (List D)} {P : Addr} {gp : Nat × Nat} (hsl : ∀ i ∈ slots, i ∈ vs) (hP : TabFree B.g P gp) : ∀ σ H Q, RdE B (seekM want vs it t tt te) σ H Q → tSeekG want (tGen1 P gp vs (RdIB B it) (ExG B t slots) (ExT B tt) (ExE B te)) σ H Q := fun σ H Q ⟨Z, ρ, ω, j, h⟩ => by
  refine ⟨Z, ρ, ω, j, ?_⟩
  unfold seekM foldM at h
  cases ea : it ρ ω with
  | bad => simp only [ea, Out.andThen] at h
  | exc c ω' => simp only [ea, Out.andThen] at h; exact h
  | ok ds ρ1 ω1 =>
    simp only [ea, Out.andThen] at h
    intro Z1 H1 It e1 z1 j1 w
    have tg := hP.tg j1.good
    refine ⟨tg, fun H2 ht => ?_⟩
    have ex : Ext B.g H1 H2 := Ext.tabbed tg ht.1
    have kk : Kp Z1 H1 Z1 H2 := .of j1.good (fun _ z => z) ex
    by_cases hno : noOwn vs ρ1 = true
    · simp only [hno, if_true] at h
      have ja : J (B.blk fun _ => False) Z1 (wipeF vs ρ1) (L2.wipe σ vs) H2 ω1 := ((j1.genStart hP ht).toBlk (R := fun _ => False) fun p hp => hp.elim).wipe vs
      refine fold_loop (R := fun _ => False) (a0 := ()) hsl (w.weak fun Z H z => ⟨kk.trans z.1, ex.trans z.2⟩) crel_seek ja .refl .refl trivial ?_
      cases ec : foldG vs t tt te (seekF want) ds () (wipeF vs ρ1) ω1 with
      | bad => simp only [ec, Out.thenB] at h
      | exc c ω' => simp only [ec, Out.thenB] at h
      | ok x ρ2 ω2 =>
        simp only [ec, Out.thenB] at h
        intro Z' H' j2 k2 e2
        have jr : J B Z' ρ2 (L2.wipe σ vs) H' ω2 := j2.ofBlk0 (R := fun _ => False)
        have jf := J.rest j1 jr (kk.trans k2) hno
        have q := fun b => h Z' (.bl b) H' (e1.trans (ex.trans e2)) (fun p z => k2.sub p (z1 p z)) jf
        cases x with
        | inl a => exact q (!want) (.bl _)
        | inr e =>
          have := seek_inr ec
          subst this
          exact ⟨rfl, q want (.bl _)⟩
    · simp only [hno, if_false] at h
      exact h.elim
theorem i_sum {it : EM (List D)} {P : Addr} {gp : Nat × Nat} (hsl : ∀ i ∈ slots, i ∈ vs) (hP : TabFree B.g P gp) : ∀ σ H Q, RdE B (sumM vs it t tt te) σ H Q → tSumG (tGen1 P gp vs (RdIB B it) (ExG B t slots) (ExT B tt) (ExE B te)) σ H Q := fun σ H Q ⟨Z, ρ, ω, j, h⟩ => by
  refine ⟨Z, ρ, ω, j, ?_⟩
  unfold sumM foldM at h
  cases ea : it ρ ω with
  | bad => simp only [ea, Out.andThen] at h
  | exc c ω' => simp only [ea, Out.andThen] at h; exact h
  | ok ds ρ1 ω1 =>
    simp only [ea, Out.andThen] at h
    intro Z1 H1 It e1 z1 j1 w
    have tg := hP.tg j1.good
    refine ⟨tg, fun H2 ht S hS => ?_⟩
    have ex : Ext B.g H1 H2 := Ext.tabbed tg ht.1
    have kk : Kp Z1 H1 Z1 H2 := .of j1.good (fun _ z => z) ex
    by_cases hno : noOwn vs ρ1 = true
    · simp only [hno, if_true] at h
      have j2 := j1.genStart hP ht
      obtain ⟨s1, s2, s3, s4, s5⟩ := fresh_of j2 hS
      have gr : Grow B.g Z1 H2 Z1 (upd H2 S (.lst [.int 0])) := grow_new0 hS
      have j3 := j2.grow gr
      have ja : J (B.blk fun p => p = S) Z1 (wipeF vs ρ1) (L2.wipe σ vs) (upd H2 S (.lst [.int 0])) ω1 := (j3.toBlk (R := fun p => p = S) fun p hp => by subst hp; exact ⟨s1, by rw [upd_same]; simp, s5⟩).wipe vs
      refine fold_loop (R := fun p => p = S) (a0 := (0 : Int)) hsl (w.weak fun Z H z => ⟨kk.trans z.1, ex.trans z.2⟩) (crel_sum (B := B.blk fun p => p = S) (.inr rfl) s3 s2 hS) ja (.of j2.good (fun _ z => z) gr.ext) gr.ext upd_same ?_
      cases ec : foldG vs t tt te sumF ds 0 (wipeF vs ρ1) ω1 with
      | bad => simp only [ec, Out.thenB] at h
      | exc c ω' => simp only [ec, Out.thenB] at h
      | ok x ρ2 ω2 =>
        simp only [ec, Out.thenB] at h
        intro Z' H' j2 k2 e2
        have jr : J B Z' ρ2 (L2.wipe σ vs) H' ω2 := j2.ofBlk0 (R := fun p => p = S)
        have jf := J.rest j1 jr (kk.trans k2) hno
        obtain ⟨a, rfl⟩ := sum_inl ec
        exact h Z' (.int a) H' (e1.trans (ex.trans e2)) (fun p z => k2.sub p (z1 p z)) jf (.int a)
    · simp only [hno, if_false] at h
      exact h.elim
end
/-- what a generator expression's place asks of the def -/
structure GenEv (X : Cx) (B : Bc) (c P : Addr) (gp : Nat × Nat) : Prop where
  tb : GxR.TabB X.base X.mg c P
  free : TabFree B.g P gp
  code : X.env.code = .ref c
  dot : (".0" : Str) ∉ X.N
  nd : X.N.Nodup
  calm : X.calm = true
section
variable {X : Cx} {B : Bc}
theorem gm_fl {c P : Addr} {elt tg iter : Expr} {ifs : List Expr} {scope : Scope} {own : List (Str × Nat)} {gpos : Pos} {it : EM (List D)} {slots : List Nat} {t : TM} {tt : EM Bool} {te : EM D} {k : Nat}
    (hr : Room k X.A) (ev : GenEv X B c P (gpos.line, gpos.col)) (ok : BlkOk X.N X.env.scope scope own) (nc : (scope.names.all fun y => !decide (y.2 = .cell)) = true) (dot0 : scope.names.lookup (".0" : Str) = some NameKind.local) (hco : scope.isCoroutine = false)
    (hi : PI X tg iter (RdIB B it)) (hs : ∀ v, genFold iter X.env v = pure v)
    (pg : ∀ R s0 H0 C code fp pn, PG (genCx X X.A.in1.in1 s0 H0 (genEnv scope (cloFrom X.env.cells scope.names []) C code builtinsNs X.env) fp pn) tg (RdG (B.blk R) t slots))
    (pt : ∀ R s0 H0 C code fp pn, PTs (genCx X X.A.in1.in1 s0 H0 (genEnv scope (cloFrom X.env.cells scope.names []) C code builtinsNs X.env) fp pn) ifs (RdT (B.blk R) tt))
    (pe : ∀ R s0 H0 C code fp pn, PE (genCx X X.A.in1.in1 s0 H0 (genEnv scope (cloFrom X.env.cells scope.names []) C code builtinsNs X.env) fp pn) elt (RdE (B.blk R) te)) :
    GM X (.GeneratorExp elt [⟨tg, iter, ifs, 0⟩] scope gpos) (own.map (·.2)) (tGen1 P (gpos.line, gpos.col) (own.map (·.2)) (RdIB B it) (ExG B t slots) (ExT B tt) (ExE B te)) :=
  gm_one hr ev.calm ev.nd ev.tb ev.code ok (fun y hy e => by have := List.all_eq_true.mp nc y hy; rw [e] at this; simp at this) ev.dot dot0 hco hi hs (fun s0 H0 C code fp pn => x_g fun R => pg R s0 H0 C code fp pn) (fun s0 H0 C code fp pn => x_t fun R => pt R s0 H0 C code fp pn) fun s0 H0 C code fp pn => x_e fun R => pe R s0 H0 C code fp pn
theorem m_any {P : Addr} {gp : Nat × Nat} {e : Expr} {vs slots : List Nat} {it : EM (List D)} {t : TM} {tt : EM Bool} {te : EM D} {p pos : Pos} {k : Nat} (hr : Room k X.A) (hb : Bn X.mg) (hP : TabFree B.g P gp) (hsl : ∀ i ∈ slots, i ∈ vs)
    (h : GM X e vs (tGen1 P gp vs (RdIB B it) (ExG B t slots) (ExT B tt) (ExE B te))) (hg : Gl X "any" := by rfl) (he : starEach [e] X.env = (false, eval e X.env) :: starEach [] X.env := by rfl) : PE X (.Call (.Name "any" p) [e] [] pos) (RdE B (seekM true vs it t tt te)) :=
  PE.imp (pe_anyG hr hg hb.any h he) (i_seek hsl hP)
theorem m_all {P : Addr} {gp : Nat × Nat} {e : Expr} {vs slots : List Nat} {it : EM (List D)} {t : TM} {tt : EM Bool} {te : EM D} {p pos : Pos} {k : Nat} (hr : Room k X.A) (hb : Bn X.mg) (hP : TabFree B.g P gp) (hsl : ∀ i ∈ slots, i ∈ vs)
    (h : GM X e vs (tGen1 P gp vs (RdIB B it) (ExG B t slots) (ExT B tt) (ExE B te))) (hg : Gl X "all" := by rfl) (he : starEach [e] X.env = (false, eval e X.env) :: starEach [] X.env := by rfl) : PE X (.Call (.Name "all" p) [e] [] pos) (RdE B (seekM false vs it t tt te)) :=
  PE.imp (pe_allG hr hg hb.all h he) (i_seek hsl hP)
theorem m_sumG {P : Addr} {gp : Nat × Nat} {e : Expr} {vs slots : List Nat} {it : EM (List D)} {t : TM} {tt : EM Bool} {te : EM D} {p pos : Pos} {k : Nat} (hr : Room k X.A) (hb : Bn X.mg) (hP : TabFree B.g P gp) (hsl : ∀ i ∈ slots, i ∈ vs)
    (h : GM X e vs (tGen1 P gp vs (RdIB B it) (ExG B t slots) (ExT B tt) (ExE B te))) (hg : Gl X "sum" := by rfl) (he : starEach [e] X.env = (false, eval e X.env) :: starEach [] X.env := by rfl) : PE X (.Call (.Name "sum" p) [e] [] pos) (RdE B (sumM vs it t tt te)) :=
  PE.imp (pe_sumG hr hg hb.sum h he) (i_sum hsl hP)
end
end L2.Fl

namespace L2.Fl
open PySem PySem.Spec PyProof.Rows GenW

/-! ### generator expressions of two clauses, no tests -/
abbrev GE2 (elt tg iter tg1 iter1 : Expr) (scope : Scope) (pos : Pos) : Expr := .GeneratorExp elt [⟨tg, iter, [], 0⟩, ⟨tg1, iter1, [], 0⟩] scope pos
/-- the turns of the inner clause; behind them the outer one's -/
def GIn (J1 : L2.It) (σ2 : L2.St) (vs1 : List Nat) (g1 : TG) (te : TE) (Yd : YTy) (out : Nat → Hp → Hp → Prop) (W1 : Nat → Nat → Hp → Hp → Prop) : Prop := ∀ j k H₀ H, W1 j k H₀ H → (J1.stop j H ∧ ∃ m', m' ≤ k ∧ out m' H₀ H) ∨ (J1.go j H ∧ ∃ Nx : Hp → Hp → Prop, (∀ H₀' H', Nx H₀' H' → ∃ k', k' < k ∧ W1 (j + 1) k' H₀' H') ∧
  ∀ x H', J1.yld j H x H' → g1 x (wipe σ2 vs1) H' fun σ3 H4 => wipe σ3 vs1 = wipe σ2 vs1 ∧ te σ3 H4 fun y H5 => Yd H₀ y H5 (fun H' => Nx H' H'))
def GTurns2 (J : L2.It) (σw : L2.St) (vs vs1 : List Nat) (g : TG) (wi1 : TI) (g1 : TG) (te : TE) (Yd : YTy) (Qd : Hp → Hp → Prop) (W : Nat → Nat → Hp → Hp → Prop) : Prop := ∀ i m H₀ H, W i m H₀ H → (J.stop i H ∧ Qd H₀ H) ∨ (J.go i H ∧ ∀ x H', J.yld i H x H' → g x σw H' fun σ2 H2 => wipe σ2 vs = σw ∧
  wi1 σ2 H2 fun J1 H3 => ∃ W1 : Nat → Nat → Hp → Hp → Prop, (∃ k, k < m ∧ W1 0 k H₀ H3) ∧ GIn J1 σ2 vs1 g1 te Yd (fun m' H₀ H => W (i + 1) m' H₀ H) W1)
theorem over_in {A : Around} {elt : Expr} {gs : List Comprehension} {sc : Scope} {pos p : Pos} {it it1 : Value} {cenv : Env} {k : Result → Sem PySem.Fin} {l : List Value} :
    A.over (.compLoop (.GeneratorExp elt gs sc pos) 1 it1 .none cenv) [.ret k none false l (.compLoop (.GeneratorExp elt gs sc pos) 0 it .none cenv) p []] = A.deeper cenv := by
  simp only [Around.over, Around.deeper]
  congr 1
  all_goals first | rfl | (cases A.frames <;> rfl) | (cases A.guards <;> rfl)
theorem over_st {A : Around} {elt : Expr} {gs : List Comprehension} {sc : Scope} {pos p : Pos} {it it1 : Value} {cenv : Env} {k : Result → Sem PySem.Fin} {l : List Value} :
    A.over (.compStart (.GeneratorExp elt gs sc pos) 1 it1 .none cenv) [.ret k none false l (.compLoop (.GeneratorExp elt gs sc pos) 0 it .none cenv) p []] = A.deeper cenv := by
  simp only [Around.over, Around.deeper]
  congr 1
  all_goals first | rfl | (cases A.frames <;> rfl) | (cases A.guards <;> rfl)
theorem turn2_0 (elt tg iter tg1 iter1 : Expr) (scope : Scope) (pos : Pos) (it acc : Value) (env : Env) : compTurn (GE2 elt tg iter tg1 iter1 scope pos) 0 it acc env = (standAt iter.pos >>= fun _ => pyNext it >>= fun r => match r with
    | none => pure (.done .next)
    | some v => letOwnedTupleGo tg it v >>= fun _ => assign tg env v >>= fun _ => eval iter1 env >>= fun x => standAt iter1.pos >>= fun _ => foldedSetIterable iter1 env x >>= fun x => holding [x] (pyIter x) >>= fun y =>
      runOwn (.compStart (GE2 elt tg iter tg1 iter1 scope pos) 1 y acc env) env >>= fun _ => again (.compLoop (GE2 elt tg iter tg1 iter1 scope pos) 0 it acc env)) := by rfl
theorem turn2_1 (elt tg iter tg1 iter1 : Expr) (scope : Scope) (pos : Pos) (it acc : Value) (env : Env) : compTurn (GE2 elt tg iter tg1 iter1 scope pos) 1 it acc env = (standAt iter1.pos >>= fun _ => pyNext it >>= fun r => match r with
    | none => pure (.done .next)
    | some v => letOwnedTupleGo tg1 it v >>= fun _ => assign tg1 env v >>= fun _ => (eval elt env >>= fun v => standAt elt.pos >>= fun _ => yieldOut env v >>= fun _ => pure ()) >>= fun _ => again (.compLoop (GE2 elt tg iter tg1 iter1 scope pos) 1 it acc env)) := by rfl
section
variable {X : Cx}
theorem seg_gen2 {elt tg iter tg1 iter1 : Expr} {scope : Scope} {pos : Pos} {it : Addr} {fp : List Addr} {tn : Nat → Heap → Prop} {J : L2.It} {A : Around} {s0 : Shared} {H0 : Hp} {cenv : Env} {vs vs1 : List Nat} {σ0 : L2.St} {g g1 : TG} {wi1 : TI} {te : TE} {pn : List (Addr × Obj)} (hpn : ∀ p ∈ pn, p.1 ∉ fp)
    (hover : A.over (.compLoop (GE2 elt tg iter tg1 iter1 scope pos) 0 (.ref it) .none cenv) [] = A.deeper cenv) (hco : cenv.scope.isCoroutine = false) (hc : X.calm = true) (hs1 : ∀ x, foldedSetIterable iter1 cenv x = pure x) (hv : ∀ i ∈ vs1, i ∈ vs)
    (T : Turn X.prog X.w X.K tg J fp it tn) (pg : PG (genCx X A s0 H0 cenv fp pn) tg g) (pi1 : PI (genCx X A s0 H0 cenv fp pn) tg1 iter1 wi1) (pg1 : PG (genCx X A s0 H0 cenv fp pn) tg1 g1) (pe : PE (genCx X A s0 H0 cenv fp pn) elt te)
    (Yd : YTy) (Qd : Hp → Hp → Prop) (W : Nat → Nat → Hp → Hp → Prop) (turn : GTurns2 J (wipe σ0 vs) vs vs1 g wi1 g1 te Yd Qd W) :
    ∀ (m : Nat), (∀ (i n : Nat) (s₀ s : Shared) (H₀ H : Hp), m < n → Inv (genCx X A s0 H0 cenv fp pn) [] (wipe σ0 vs) H₀ s₀ → Inv (genCx X A s0 H0 cenv fp pn) [] (wipe σ0 vs) H s → tn i s.heap → (∀ b ∈ fp, H b = none) → W i m H₀ H →
      Seg (model X.prog X.w) A (GEndI (genCx X A s0 H0 cenv fp pn) (wipe σ0 vs) fp Qd) (GYldI (genCx X A s0 H0 cenv fp pn) (wipe σ0 vs) fp Yd) n s₀ (.compLoop (GE2 elt tg iter tg1 iter1 scope pos) 0 (.ref it) .none cenv)
        ((model X.prog X.w).den (.compLoop (GE2 elt tg iter tg1 iter1 scope pos) 0 (.ref it) .none cenv)) [] s) ∧
      (∀ (i j n : Nat) (s₀ s : Shared) (H₀ H : Hp) (it1 : Addr) (fp1 : List Addr) (tn1 : Nat → Heap → Prop) (J1 : L2.It) (σ2 : L2.St) (W1 : Nat → Nat → Hp → Hp → Prop) (k : Result → Sem PySem.Fin) (l : List Value) (p : Pos), m < n → Inv (genCx X A s0 H0 cenv fp pn) [] (wipe σ0 vs) H₀ s₀ → Inv (genCx X A s0 H0 cenv fp pn) [] (wipe σ2 vs1) H s → wipe σ2 vs = wipe σ0 vs →
        tn i s.heap → (∀ b ∈ fp, H b = none) → Turn X.prog X.w X.K tg1 J1 fp1 it1 tn1 → tn1 j s.heap → (∀ b ∈ fp1, ∀ H', H' b = none → FpOk (genCx X A s0 H0 cenv fp pn) [] H' b) → (∀ b ∈ fp1, H b = none) → (∀ b ∈ fp1, b ∉ fp) → W1 j m H₀ H →
        GIn J1 σ2 vs1 g1 te Yd (fun m' H₀ H => W i m' H₀ H) W1 → k (.ok .next) = .pure (.again (.compLoop (GE2 elt tg iter tg1 iter1 scope pos) 0 (.ref it) .none cenv)) →
        Seg (model X.prog X.w) A (GEndI (genCx X A s0 H0 cenv fp pn) (wipe σ0 vs) fp Qd) (GYldI (genCx X A s0 H0 cenv fp pn) (wipe σ0 vs) fp Yd) n s₀ (.compLoop (GE2 elt tg iter tg1 iter1 scope pos) 1 (.ref it1) .none cenv)
          ((model X.prog X.w).den (.compLoop (GE2 elt tg iter tg1 iter1 scope pos) 1 (.ref it1) .none cenv)) [.ret k none false l (.compLoop (GE2 elt tg iter tg1 iter1 scope pos) 0 (.ref it) .none cenv) p []] s) := by
  have stat : ∀ {σ' : L2.St} {H' : Hp} {s' : Shared}, Inv (genCx X A s0 H0 cenv fp pn) [] σ' H' s' → (∀ b ∈ fp, H' b = none) → ∀ b ∈ fp, FpOk (genCx X A s0 H0 cenv fp pn) [] H' b := fun {σ' H' s'} I' hn b hb =>
    ⟨hn b hb, (I'.ok.exf b hb).1, I'.ok.exfs b hb, .inl hb, fun x c e => (I'.ok.exf b hb).2 x c e, fun p hp e => hpn p (by simpa using hp) (e ▸ hb)⟩
  intro m
  induction m using Nat.strongRecOn with
  | _ m ih =>
    have outer : ∀ (i n : Nat) (s₀ s : Shared) (H₀ H : Hp), m < n → Inv (genCx X A s0 H0 cenv fp pn) [] (wipe σ0 vs) H₀ s₀ → Inv (genCx X A s0 H0 cenv fp pn) [] (wipe σ0 vs) H s → tn i s.heap → (∀ b ∈ fp, H b = none) → W i m H₀ H →
        Seg (model X.prog X.w) A (GEndI (genCx X A s0 H0 cenv fp pn) (wipe σ0 vs) fp Qd) (GYldI (genCx X A s0 H0 cenv fp pn) (wipe σ0 vs) fp Yd) n s₀ (.compLoop (GE2 elt tg iter tg1 iter1 scope pos) 0 (.ref it) .none cenv)
          ((model X.prog X.w).den (.compLoop (GE2 elt tg iter tg1 iter1 scope pos) 0 (.ref it) .none cenv)) [] s := by
      intro i n s₀ s H₀ H hmn I0 I st nf w
      show Seg _ A _ _ _ s₀ _ ((compTurn (GE2 elt tg iter tg1 iter1 scope pos) 0 (.ref it) .none cenv).onRaise (leaving cenv)) [] s
      rw [turn2_0, Sem.onRaise_eq_wrap]
      refine seg_bind_wrap (wpAny_standAt ?_)
      rcases turn i m H₀ H w with ⟨stop, qq⟩ | ⟨go, step⟩
      · refine seg_bind_wrap ?_
        rw [hover]
        refine thnF (T.done (genCx X A s0 H0 cenv fp pn) rfl rfl rfl hc i [] s _ H (fun _ _ => False) I (stat I nf) st stop) fun r s1 ⟨hr, I1⟩ => ?_
        subst hr
        exact seg_end (.ok .next) ⟨rfl, H₀, H, I0, I1, nf, qq⟩
      · refine seg_bind_wrap ?_
        rw [hover]
        refine thnF (T.item (genCx X A s0 H0 cenv fp pn) rfl rfl rfl hc i [] s _ H (fun _ _ => False) I (stat I nf) st go) fun r s1 ⟨u, hr, h1⟩ => ?_
        subst hr
        refine seg_bind_wrap ?_
        rw [hover]
        refine thnF h1 fun _ s2 ⟨x, H2, I2, r2, y2, st2, nf2⟩ => ?_
        have I2' := I2.pinned (stat I2 nf2) (T.obj _ _ st2)
        refine seg_bind_wrap ?_
        rw [hover]
        refine thnF (pg.run _ s2 _ H2 x u _ I2' r2 (step x H2 y2)) fun _ s3 ⟨σ3, H3, I3, hw3, q3⟩ => ?_
        refine seg_bind_wrap ?_
        rw [hover]
        refine thnF (pi1.run _ s3 σ3 H3 _ I3 q3) fun xv s4 h4 => ?_
        refine seg_bind_wrap (wpAny_standAt (seg_bind_wrap (wpAny_of_eq (hs1 xv) (seg_bind_wrap (wpAny_holding ?_)))))
        rw [hover]
        refine thnF h4 fun itv s5 h5 => ?_
        obtain ⟨it1, fp1, tn1, J1, H5, rfl, I5, T1, st1, f1, W1, ⟨k, hk, w1⟩, gin⟩ := h5
        have pin' : ∀ b ∈ fp, ∀ o, s2.heap.get? b = some o → s5.heap.get? b = some o ∧ H5 b = none := fun b hb o e => by
          have y := I5.pin (b, o) (List.mem_append_right _ (List.mem_append_right _ (mem_pinsAt hb e)))
          exact ⟨y.1, y.2.1⟩
        have nf5 : ∀ b ∈ fp, H5 b = none := fun b hb => by
          obtain ⟨o, e, _⟩ := T.obj _ _ st2 b hb
          exact (pin' b hb o e).2
        have st5 : tn (i + 1) s5.heap := T.keep _ _ _ st2 fun b hb o e => (pin' b hb o e).1
        have dj : ∀ b ∈ fp1, b ∉ fp := fun b hb hb' => by
          obtain ⟨o, e, _⟩ := T.obj _ _ st2 b hb'
          exact (f1 b hb).2.2.2.2.2 (b, o) (List.mem_append_right _ (List.mem_append_right _ (mem_pinsAt hb' e))) rfl
        have I6 : Inv (genCx X A s0 H0 cenv fp pn) [] (wipe σ3 vs1) H5 s5 := (I5.unpinned (pins := [])).weak (by rw [wipe_length]) fun j v e => (wipe_some e).1
        rw [Sem.bind_eq_wrap', Sem.wrap_wrap]
        unfold runOwn run
        rw [Sem.onRaise_eq_wrap, Sem.wrap_wrap]
        refine seg_call fun p => ?_
        show Seg _ A _ _ _ s₀ _ ((compStart (GE2 elt tg iter tg1 iter1 scope pos) 1 (.ref it1) .none cenv).onRaise (fun x => do noteFrame x cenv; standAt theWindowsPlace)) _ s5
        have go1 : ∀ z, Inv (genCx X A s0 H0 cenv fp pn) [] (wipe σ3 vs1) H5 z → tn (i + 1) z.heap → tn1 0 z.heap → ∀ kk l, kk (.ok .next) = .pure (.again (.compLoop (GE2 elt tg iter tg1 iter1 scope pos) 0 (.ref it) .none cenv)) → Seg (model X.prog X.w) A (GEndI (genCx X A s0 H0 cenv fp pn) (wipe σ0 vs) fp Qd) (GYldI (genCx X A s0 H0 cenv fp pn) (wipe σ0 vs) fp Yd) n s₀ (.compLoop (GE2 elt tg iter tg1 iter1 scope pos) 1 (.ref it1) .none cenv)
            ((model X.prog X.w).den (.compLoop (GE2 elt tg iter tg1 iter1 scope pos) 1 (.ref it1) .none cenv)) [.ret kk none false l (.compLoop (GE2 elt tg iter tg1 iter1 scope pos) 0 (.ref it) .none cenv) p []] z := fun z Iz sz sz1 kk l hkk =>
          (ih k hk).2 (i + 1) 0 n s₀ z H₀ H5 it1 fp1 tn1 J1 σ3 W1 kk l p (by omega) I0 Iz hw3 sz nf5 T1 sz1 (fun b hb H' e => ⟨e, (f1 b hb).2.1, (f1 b hb).2.2.1, (f1 b hb).2.2.2.1, (f1 b hb).2.2.2.2.1, fun q hq => (f1 b hb).2.2.2.2.2 q (by
            rcases List.mem_append.mp hq with h | h
            · exact List.mem_append_left _ h
            · cases h)⟩) (fun b hb => (f1 b hb).1) dj w1 gin hkk
        unfold compStart
        rw [Sem.onRaise_eq_wrap]
        show Seg _ A _ _ _ s₀ _ ((ask >>= _).wrap _ _ _ _) _ s5
        refine seg_bind_wrap (wpAny_askSetting ?_)
        split
        · exact seg_again rfl (go1 _ I6 st5 st1 _ _ rfl)
        · refine seg_bind_wrap (wpAny_rule ?_)
          show Seg _ A _ _ _ s₀ _ ((standAt iter1.pos >>= _).wrap _ _ _ _) _ s5
          exact seg_bind_wrap (wpAny_standAt (seg_bind_wrap (T1.self _ 0 s5 _ _ st1 (seg_again rfl (go1 _ I6 st5 st1 _ _ rfl)))))
    refine ⟨outer, ?_⟩
    intro i j n s₀ s H₀ H it1 fp1 tn1 J1 σ2 W1 k l p hmn I0 I hw2 st nf T1 st1 fs1 nf1 dj w gin hk
    have wk : ∀ {z : Shared} {H' : Hp} {σ' : L2.St} {ps : List (Addr × Obj)}, wipe σ' vs1 = wipe σ2 vs1 → Inv (genCx X A s0 H0 cenv fp pn) ps σ' H' z → Inv (genCx X A s0 H0 cenv fp pn) ps (wipe σ0 vs) H' z := fun {z H' σ' ps} e I' => by
      have e2 : wipe σ' vs = wipe σ0 vs := by rw [← hw2, ← wipe_in (σ := σ') hv, e, wipe_in hv]
      exact I'.weak (by rw [← e2, wipe_length]) fun q v z => by rw [← e2] at z; exact (wipe_some z).1
    have wi : wipe (wipe σ2 vs1) vs1 = wipe σ2 vs1 := wipe_in fun _ h => h
    show Seg _ A _ _ _ s₀ _ ((compTurn (GE2 elt tg iter tg1 iter1 scope pos) 1 (.ref it1) .none cenv).onRaise (fun x => do noteFrame x cenv; theTreesLotGoes x)) _ s
    rw [turn2_1, Sem.onRaise_eq_wrap]
    refine seg_bind_wrap (wpAny_standAt ?_)
    have I' := I.pinned (stat I nf) (T.obj _ _ st)
    have f1' : ∀ {z : Hp}, (∀ b ∈ fp1, z b = none) → ∀ b ∈ fp1, FpOk (genCx X A s0 H0 cenv fp pn) ([] ++ pinsAt fp s.heap) z b := fun {z} hz b hb => by
      have y := fs1 b hb z (hz b hb)
      refine ⟨y.1, y.2.1, y.2.2.1, y.2.2.2.1, y.2.2.2.2.1, fun q hq => ?_⟩
      rcases List.mem_append.mp hq with h | h
      · exact y.2.2.2.2.2 q (List.mem_append_left _ h)
      · rcases List.mem_append.mp h with h | h
        · cases h
        · intro e
          exact dj b hb (e ▸ (of_pinsAt h).1)
    -- the outer iterator behind a step
    have keepO : ∀ {z : Shared} {H' : Hp} {σ' : L2.St} {qs : List (Addr × Obj)}, Inv (genCx X A s0 H0 cenv fp pn) (([] ++ pinsAt fp s.heap) ++ qs) σ' H' z → tn i z.heap ∧ ∀ b ∈ fp, H' b = none := fun {z H' σ' qs} I' => by
      have pin' : ∀ b ∈ fp, ∀ o, s.heap.get? b = some o → z.heap.get? b = some o ∧ H' b = none := fun b hb o e => by
        have y := I'.pin (b, o) (List.mem_append_right _ (List.mem_append_left _ (List.mem_append_right _ (mem_pinsAt hb e))))
        exact ⟨y.1, y.2.1⟩
      refine ⟨T.keep _ _ _ st fun b hb o e => (pin' b hb o e).1, fun b hb => ?_⟩
      obtain ⟨o, e, _⟩ := T.obj _ _ st b hb
      exact (pin' b hb o e).2
    rcases gin j m H₀ H w with ⟨stop, m', hm', ow⟩ | ⟨go, Nx, hNx, step⟩
    · refine seg_bind_wrap ?_
      rw [over_in]
      refine thnF (T1.done (genCx X A s0 H0 cenv fp pn) rfl rfl rfl hc j _ s _ H (fun _ _ => False) I' (f1' nf1) st1 stop) fun r s1 ⟨hr, I1⟩ => ?_
      subst hr
      obtain ⟨so, nfo⟩ := keepO (qs := []) (by rw [List.append_nil]; exact I1)
      refine seg_leaf (.ok .next) ?_
      rw [hk]
      refine seg_again rfl ?_
      have Iw := wk wi (I1.unpinned (pins := []))
      by_cases e : m' = m
      · subst e; exact outer i n s₀ s1 H₀ H hmn I0 Iw so nfo ow
      · exact (ih m' (by omega)).1 i n s₀ s1 H₀ H (by omega) I0 Iw so nfo ow
    · refine seg_bind_wrap ?_
      rw [over_in]
      refine thnF (T1.item (genCx X A s0 H0 cenv fp pn) rfl rfl rfl hc j _ s _ H (fun _ _ => False) I' (f1' nf1) st1 go) fun r s1 ⟨u, hr, h1⟩ => ?_
      subst hr
      refine seg_bind_wrap ?_
      rw [over_in]
      refine thnF h1 fun _ s2 ⟨x, H2, I2, r2, y2, st2, nf2⟩ => ?_
      have I2' := I2.pinned (f1' nf2) (T1.obj _ _ st2)
      refine seg_bind_wrap ?_
      rw [over_in]
      refine thnF (pg1.run _ s2 _ H2 x u _ I2' r2 (step x H2 y2)) fun _ s3 ⟨σ3, H3, I3, hw3, q3⟩ => ?_
      rw [Sem.bind_eq_wrap', Sem.wrap_wrap]
      have hy : ∀ v, yieldOut cenv v = yieldValue v := fun v => by simp only [yieldOut, hco, Bool.false_eq_true, if_false]
      simp only [hy]
      rw [Sem.bind_eq_wrap', Sem.wrap_wrap]
      refine seg_wrap ?_
      rw [over_in]
      refine thnF (pe.run _ s3 σ3 H3 _ I3 q3) fun v s5 ⟨y, H5, I5, r5, q5⟩ => ?_
      obtain ⟨so, nfo⟩ := keepO I5
      have pin1 : ∀ b ∈ fp1, ∀ o, s2.heap.get? b = some o → s5.heap.get? b = some o ∧ H5 b = none := fun b hb o e => by
        have z := I5.pin (b, o) (List.mem_append_right _ (List.mem_append_right _ (mem_pinsAt hb e)))
        exact ⟨z.1, z.2.1⟩
      have s1o : tn1 (j + 1) s5.heap := T1.keep _ _ _ st2 fun b hb o e => (pin1 b hb o e).1
      have nf1o : ∀ b ∈ fp1, H5 b = none := fun b hb => by
        obtain ⟨o, e, _⟩ := T1.obj _ _ st2 b hb
        exact (pin1 b hb o e).2
      have I6 : Inv (genCx X A s0 H0 cenv fp pn) [] σ3 H5 s5 := (I5.unpinned (pins := ([] ++ pinsAt fp s.heap))).unpinned (pins := [])
      have I7 : Inv (genCx X A s0 H0 cenv fp pn) [] (wipe σ2 vs1) H5 s5 := I6.weak (by rw [← hw3, wipe_length]) fun q v z => by rw [← hw3] at z; exact (wipe_some z).1
      have I8 := wk hw3 I6
      cases n with
      | zero => exact absurd hmn (Nat.not_lt_zero _)
      | succ n =>
        refine seg_at (seg_yield rfl rfl rfl ⟨y, H₀, H5, (fun H' => Nx H' H'), wipe σ2 vs1, r5, I0, I8, I7, nfo, q5, fun H' nx dm s'' I'' Iy'' k'' => ?_⟩)
        obtain ⟨k', hk', w'⟩ := hNx _ _ nx
        exact seg_again rfl ((ih k' hk').2 i (j + 1) n s'' s'' H' H' it1 fp1 tn1 J1 σ2 W1 k l p (by omega) I'' Iy'' hw2 (T.keep _ _ _ so fun b hb o e => k'' b o (nfo b hb) e) (fun b hb => dm b (nfo b hb)) T1 (T1.keep _ _ _ s1o fun b hb o e => k'' b o (nf1o b hb) e) fs1 (fun b hb => dm b (nf1o b hb)) dj w' gin hk)
def tGen2 (P : Addr) (gp : Nat × Nat) (vs vs1 : List Nat) (wi : TI) (g : TG) (wi1 : TI) (g1 : TG) (te : TE) : TGen := fun σ H R => wi σ H fun J H1 => GxR.TabG H1 P ∧ ∀ H2, TabdX P gp H1 H2 → R H2 (GTurns2 J (wipe σ vs) vs vs1 g wi1 g1 te)
theorem gm_two {c P : Addr} {elt tg iter tg1 iter1 : Expr} {scope : Scope} {own : List (Str × Nat)} {vs1 : List Nat} {gpos : Pos} {wi wi1 : TI} {g g1 : TG} {te : TE} {k : Nat}
    (hr : Room k X.A) (hc : X.calm = true) (hN : X.N.Nodup) (TB : GxR.TabB X.base X.mg c P) (hcode : X.env.code = .ref c) (ok : BlkOk X.N X.env.scope scope own) (nc : ∀ y ∈ scope.names, y.2 ≠ .cell) (dot : (".0" : Str) ∉ X.N) (dot0 : scope.names.lookup (".0" : Str) = some NameKind.local) (hco : scope.isCoroutine = false)
    (hi : PI X tg iter wi) (hs : ∀ v, genFold iter X.env v = pure v) (hv : ∀ i ∈ vs1, i ∈ own.map (·.2)) (hs1 : ∀ C code x, foldedSetIterable iter1 (genEnv scope (cloFrom X.env.cells scope.names []) C code builtinsNs X.env) x = pure x)
    (pg : ∀ s0 H0 C code fp pn, PG (genCx X X.A.in1.in1 s0 H0 (genEnv scope (cloFrom X.env.cells scope.names []) C code builtinsNs X.env) fp pn) tg g)
    (pi1 : ∀ s0 H0 C code fp pn, PI (genCx X X.A.in1.in1 s0 H0 (genEnv scope (cloFrom X.env.cells scope.names []) C code builtinsNs X.env) fp pn) tg1 iter1 wi1)
    (pg1 : ∀ s0 H0 C code fp pn, PG (genCx X X.A.in1.in1 s0 H0 (genEnv scope (cloFrom X.env.cells scope.names []) C code builtinsNs X.env) fp pn) tg1 g1)
    (pe : ∀ s0 H0 C code fp pn, PE (genCx X X.A.in1.in1 s0 H0 (genEnv scope (cloFrom X.env.cells scope.names []) C code builtinsNs X.env) fp pn) elt te) :
    GM X (GE2 elt tg iter tg1 iter1 scope gpos) (own.map (·.2)) (tGen2 P (gpos.line, gpos.col) (own.map (·.2)) vs1 wi g wi1 g1 te) :=
  ⟨fun pins s σ H Q' R I h hQ => gen_makeG (ifs := []) (mo := [⟨tg1, iter1, [], 0⟩]) (GT := fun J => GTurns2 J (wipe σ (own.map (·.2))) (own.map (·.2)) vs1 g wi1 g1 te) hr hc hN TB hcode ok nc dot dot0 hco hi hs
    (fun s0 H0 C code fp pn it tn J T hpn Yd Qd W turns m s₀ s H₀ H I0 I1 st nf w => (seg_gen2 (X := X) hpn (by first | rfl | simp [Around.over, Around.deeper]) hco hc (hs1 _ _) hv T (pg _ _ _ _ _ _) (pi1 _ _ _ _ _ _) (pg1 _ _ _ _ _ _) (pe _ _ _ _ _ _) Yd Qd W turns m).1 0 (m + 1) s₀ s H₀ H (Nat.lt_succ_self _) I0 I1 st nf w) I h hQ⟩
end
/-- a consumer of a generator expression of two clauses -/
def foldG2 {α : Type} (vs vs1 : List Nat) (t : TM) (it1 : EM (List D)) (t1 : TM) (te : EM D) (f : α → D → Option (Sum α D)) : List D → α → EM (Sum α D)
  | [], a => fun ρ ω => .ok (.inl a) ρ ω
  | d :: ds, a => fun ρ ω => match t d ρ with
    | none => .bad
    | some ρ1 => (it1 ρ1 ω).thenB fun ds1 ρ2 ω2 => (foldG vs1 t1 yesT te f ds1 a (wipeF vs1 ρ2) ω2).thenB fun r ρ3 ω3 => match r with
      | .inr e => .ok (.inr e) (wipeF vs ρ3) ω3
      | .inl a' => foldG2 vs vs1 t it1 t1 te f ds a' (wipeF vs ρ3) ω3
/-- how many turns there are at most -/
def cntG2 {α : Type} (vs vs1 : List Nat) (t : TM) (it1 : EM (List D)) (t1 : TM) (te : EM D) (f : α → D → Option (Sum α D)) : List D → α → Fr → W3 → Nat
  | [], _ => fun _ _ => 0
  | d :: ds, a => fun ρ ω => match t d ρ with
    | none => 0
    | some ρ1 => match it1 ρ1 ω with
      | .ok ds1 ρ2 ω2 => 1 + ds1.length + (match foldG vs1 t1 yesT te f ds1 a (wipeF vs1 ρ2) ω2 with
        | .ok (.inl a') ρ3 ω3 => cntG2 vs vs1 t it1 t1 te f ds a' (wipeF vs ρ3) ω3
        | _ => 0)
      | _ => 0
def fold2M {α : Type} (vs vs1 : List Nat) (it : EM (List D)) (t : TM) (it1 : EM (List D)) (t1 : TM) (te : EM D) (f : α → D → Option (Sum α D)) (a0 : α) (fin : α → D) : EM D := fun ρ ω => (it ρ ω).andThen fun ds ρ1 ω1 =>
  if noOwn vs ρ1 then (foldG2 vs vs1 t it1 t1 te f ds a0 (wipeF vs ρ1) ω1).thenB fun x ρ2 ω2 => .ok (endG fin x) (restF vs ρ1 ρ2) ω2 else .bad
def seek2M (want : Bool) (vs vs1 : List Nat) (it : EM (List D)) (t : TM) (it1 : EM (List D)) (t1 : TM) (te : EM D) : EM D := fold2M vs vs1 it t it1 t1 te (seekF want) () fun _ => .bl (!want)
def sum2M (vs vs1 : List Nat) (it : EM (List D)) (t : TM) (it1 : EM (List D)) (t1 : TM) (te : EM D) : EM D := fold2M vs vs1 it t it1 t1 te sumF 0 D.int
section
variable {α : Type} {B : Bc} {R : Addr → Prop} {vs vs1 slots slots1 : List Nat} {σ : L2.St} {t t1 : TM} {it1 : EM (List D)} {te : EM D} {f : α → D → Option (Sum α D)} {AR : α → Hp → Prop} {Up : Hp → Hp → Prop} {Yd : YTy} {Qd : Hp → Hp → Prop} {Qe : α → Hp → Prop} {Qs : D → Hp → Prop}
/-- the inner clause's turns -/
theorem fold_in {It : L2.It} {ds : List D} {Za Z1 : Addr → Prop} {Ha H1 H₀1 : Hp} {ρ : Fr} {ω : W3} {a0 : α} {σ2 : L2.St} {out : Nat → Hp → Hp → Prop} {r : Sum α D} {ρr : Fr} {ωr : W3} (hsl : ∀ i ∈ slots1, i ∈ vs1) (n : Nat)
    (w : Wk B.g (Kp Z1 H1) It ds) (c : CRel (B.blk R) Ha f AR Up Yd Qd Qe Qs) (ja : J (B.blk R) Z1 ρ (L2.wipe σ2 vs1) H1 ω) (ka : Kp Za Ha Z1 H1) (ea : Ext B.g Ha H1) (ar0 : AR a0 H₀1) (ar : AR a0 H1) (er : foldG vs1 t1 yesT te f ds a0 ρ ω = .ok r ρr ωr)
    (hq : ∀ (Z' : Addr → Prop) (H' H₀' : Hp), J (B.blk R) Z' ρr (L2.wipe σ2 vs1) H' ωr → Kp Za Ha Z' H' → Ext B.g Ha H' → match r with
      | .inr e => Qs e H'
      | .inl a' => AR a' H₀' → AR a' H' → out n H₀' H') :
    ∃ W1 : Nat → Nat → Hp → Hp → Prop, W1 0 (ds.length + n) H₀1 H1 ∧ GIn It σ2 vs1 (ExG B t1 slots1) (ExE B te) Yd out W1 := by
  obtain ⟨G, Y, w1, w2, w3⟩ := w
  let Pv : Nat → Hp → Hp → Prop := fun i H₀ H => ∃ Z ρ ω a, J (B.blk R) Z ρ (L2.wipe σ2 vs1) H ω ∧ Kp Z1 H1 Z H ∧ Kp Za Ha Z H ∧ Ext B.g Ha H ∧ AR a H₀ ∧ AR a H ∧ foldG vs1 t1 yesT te f (ds.drop i) a ρ ω = .ok r ρr ωr
  refine ⟨fun i m H₀ H => m = ds.length - i + n ∧ i ≤ ds.length ∧ Pv i H₀ H, ⟨by simp, Nat.zero_le _, Z1, ρ, ω, a0, ja, .refl, ka, ea, ar0, ar, by rw [List.drop_zero]; exact er⟩, ?_⟩
  rintro i m H₀ H ⟨rfl, hi, Z, ρ, ω, a, jj, k0, k1, e1, ar0, ar1, er⟩
  have hG := w2 Z H k0
  by_cases hlt : i < ds.length
  · refine .inr ⟨w1.goes i H hlt hG, Pv (i + 1), fun H₀' H' p' => ⟨ds.length - (i + 1) + n, by omega, rfl, hlt, p'⟩, fun x H' y => ?_⟩
    obtain ⟨Z3, d, gr, hd, rd⟩ := w3 i H x H' Z ω hlt jj.good k0 (w1.yields i H x H' hlt hG y)
    have j3 : J (B.blk R) Z3 ρ (L2.wipe σ2 vs1) H' ω := jj.grow (B := B.blk R) gr
    have kk3 : Kp Z H Z3 H' := .of jj.good gr.sub gr.ext
    have hd' : ds.drop i = d :: ds.drop (i + 1) := by
      rw [List.drop_eq_getElem_cons hlt]
      obtain ⟨_, e⟩ := List.getElem?_eq_some_iff.mp hd
      rw [e]
    rw [hd'] at er
    unfold foldG at er
    refine ⟨R, Z3, ρ, ω, d, j3, rd, ?_⟩
    cases et : t1 d ρ with
    | none => simp only [et] at er; cases er
    | some ρ4 =>
      simp only [et, yesT, Out.thenB] at er
      intro σ4 h4 l4 j4
      have hw4 : L2.wipe σ4 vs1 = L2.wipe σ2 vs1 := by
        rw [wipe_eq (fun j hj => h4 j fun z => hj (hsl j z)) l4]
      refine ⟨hw4, R, Z3, ρ4, ω, j4, ?_⟩
      cases ee : te ρ4 ω with
      | bad => simp only [ee] at er; cases er
      | exc c ω' => simp only [ee] at er; cases er
      | ok v ρ6 ω6 =>
        simp only [ee] at er
        intro Z6 y6 H6 x6 z6 j6 r6
        have k6 : Kp Z H Z6 H6 := kk3.trans (.of j4.good z6 x6)
        have e6 : Ext B.g H H6 := gr.ext.trans x6
        have jw : J (B.blk R) Z6 (wipeF vs1 ρ6) (L2.wipe σ2 vs1) H6 ω6 := by rw [← hw4]; exact j6.wipe vs1
        refine c.step a v y6 H₀ H6 _ Z6 r6 ar0 (c.keep _ _ _ ar1 e6) ?_
        cases ef : f a v with
        | none => simp only [ef] at er; cases er
        | some s =>
          cases s with
          | inr e =>
            simp only [ef] at er
            cases er
            exact hq Z6 H6 H₀ jw (k1.trans k6) (e1.trans e6)
          | inl a' =>
            simp only [ef] at er
            intro H7 u7 ar7
            obtain ⟨j7, k7, x7⟩ := c.up _ _ _ _ _ _ jw u7
            exact ⟨Z6, wipeF vs1 ρ6, ω6, a', j7, (k0.trans k6).trans k7, (k1.trans k6).trans k7, x7 (e1.trans e6), ar7, ar7, er⟩
  · have hi' : i = ds.length := by omega
    subst hi'
    rw [List.drop_length] at er
    cases er
    exact .inl ⟨w1.stops H hG, n, by omega, hq Z H H₀ jj k1 e1 ar0 ar1⟩
theorem fold_loop2 {It : L2.It} {ds : List D} {Za : Addr → Prop} {Ha H1 : Hp} {ρ : Fr} {ω : W3} {a0 : α} (hsl : ∀ i ∈ slots, i ∈ vs) (hsl1 : ∀ i ∈ slots1, i ∈ vs1) (hv : ∀ i ∈ vs1, i ∈ vs)
    (w : Wk B.g (fun Z H => Kp Za Ha Z H ∧ Ext B.g Ha H) It ds) (c : CRel (B.blk R) Ha f AR Up Yd Qd Qe Qs) (ja : J (B.blk R) Za ρ (L2.wipe σ vs) H1 ω) (ka : Kp Za Ha Za H1) (ea : Ext B.g Ha H1) (ar : AR a0 H1)
    (hq : FPost (B.blk R) (L2.wipe σ vs) Za Ha (foldG2 vs vs1 t it1 t1 te f ds a0 ρ ω) Qe Qs) :
    ∃ W : Nat → Nat → Hp → Hp → Prop, (∃ m, W 0 m H1 H1) ∧ GTurns2 It (L2.wipe σ vs) vs vs1 (ExG B t slots) (ExIf B it1) (ExG B t1 slots1) (ExE B te) Yd Qd W := by
  obtain ⟨G, Y, w1, w2, w3⟩ := w
  let Pv : Nat → Nat → Hp → Hp → Prop := fun i m H₀ H => ∃ Z ρ ω a, m = cntG2 vs vs1 t it1 t1 te f (ds.drop i) a ρ ω ∧ J (B.blk R) Z ρ (L2.wipe σ vs) H ω ∧ Kp Za Ha Z H ∧ Ext B.g Ha H ∧ AR a H₀ ∧ AR a H ∧ FPost (B.blk R) (L2.wipe σ vs) Za Ha (foldG2 vs vs1 t it1 t1 te f (ds.drop i) a ρ ω) Qe Qs
  refine ⟨fun i m H₀ H => i ≤ ds.length ∧ Pv i m H₀ H, ⟨_, Nat.zero_le _, Za, ρ, ω, a0, rfl, ja, ka, ea, ar, ar, by rw [List.drop_zero]; exact hq⟩, ?_⟩
  rintro i m H₀ H ⟨hi, Z, ρ, ω, a, rfl, jj, k1, e1, ar0, ar1, hq⟩
  have hG := w2 Z H ⟨k1, e1⟩
  by_cases hlt : i < ds.length
  · refine .inr ⟨w1.goes i H hlt hG, fun x H' y => ?_⟩
    obtain ⟨Z3, d, gr, hd, rd⟩ := w3 i H x H' Z ω hlt jj.good ⟨k1, e1⟩ (w1.yields i H x H' hlt hG y)
    have j3 : J (B.blk R) Z3 ρ (L2.wipe σ vs) H' ω := jj.grow (B := B.blk R) gr
    have kk3 : Kp Z H Z3 H' := .of jj.good gr.sub gr.ext
    have hd' : ds.drop i = d :: ds.drop (i + 1) := by
      rw [List.drop_eq_getElem_cons hlt]
      obtain ⟨_, e⟩ := List.getElem?_eq_some_iff.mp hd
      rw [e]
    rw [hd'] at hq ⊢
    unfold foldG2 at hq
    unfold cntG2
    refine ⟨R, Z3, ρ, ω, d, j3, rd, ?_⟩
    cases et : t d ρ with
    | none => simp only [et] at hq; exact hq
    | some ρ4 =>
      simp only [et] at hq ⊢
      intro σ4 h4 l4 j4
      have hw4 : L2.wipe σ4 vs = L2.wipe σ vs := wipe_eq (fun j hj => h4 j fun z => hj (hsl j z)) l4
      refine ⟨hw4, R, Z3, ρ4, ω, j4, ?_⟩
      cases ei : it1 ρ4 ω with
      | bad => simp only [ei, Out.thenB] at hq; exact hq
      | exc c ω' => simp only [ei, Out.thenB] at hq; exact hq.elim
      | ok ds1 ρ5 ω5 =>
        simp only [ei, Out.thenB] at hq ⊢
        intro Z5 H5 It1 x5 z5 j5 wk1
        have k5 : Kp Z H Z5 H5 := kk3.trans (.of j4.good z5 x5)
        have e5 : Ext B.g H H5 := gr.ext.trans x5
        cases er : foldG vs1 t1 yesT te f ds1 a (wipeF vs1 ρ5) ω5 with
        | bad => simp only [er] at hq; exact hq.elim
        | exc c ω' => simp only [er] at hq; exact hq.elim
        | ok r ρ6 ω6 =>
          simp only [er] at hq ⊢
          have jb : ∀ {Z' H'}, J (B.blk R) Z' ρ6 (L2.wipe σ4 vs1) H' ω6 → J (B.blk R) Z' (wipeF vs ρ6) (L2.wipe σ vs) H' ω6 := fun {Z' H'} j => by
            have := j.wipe vs
            rw [wipe_in hv, hw4] at this
            exact this
          obtain ⟨W1, h0, gin⟩ := fold_in (B := B) (R := R) (σ2 := σ4) (Za := Za) (Ha := Ha) (H₀1 := H₀) (out := fun m' H₀ H => i + 1 ≤ ds.length ∧ Pv (i + 1) m' H₀ H) hsl1 (r.elim (fun a' => cntG2 vs vs1 t it1 t1 te f (ds.drop (i + 1)) a' (wipeF vs ρ6) ω6) fun _ => 0) wk1 c (j5.wipe vs1) (k1.trans k5) (e1.trans e5) ar0 (c.keep _ _ _ ar1 e5) er (fun Z' H' H₀' j6 k6 x6 => by
              cases r with
              | inr e => exact hq Z' H' (jb j6) k6 x6
              | inl a' => exact fun b0 b1 => ⟨hlt, Z', wipeF vs ρ6, ω6, a', rfl, jb j6, k6, x6, b0, b1, hq⟩)
          refine ⟨W1, ⟨_, ?_, h0⟩, gin⟩
          cases r with
          | inl a' => simp only [Sum.elim_inl]; omega
          | inr e => simp only [Sum.elim_inr]; omega
  · have hi' : i = ds.length := by omega
    subst hi'
    rw [List.drop_length] at hq
    exact .inl ⟨w1.stops H hG, c.fin a H₀ H ar0 ar1 (hq Z H jj k1 e1)⟩
end
section
variable {B : Bc} {vs vs1 slots slots1 : List Nat} {t t1 : TM} {it1 : EM (List D)} {te : EM D}
theorem seek_inr2 {want : Bool} {x : D} {ρ2 : Fr} {ω2 : W3} : ∀ {ds : List D} {a : Unit} {ρ : Fr} {ω : W3}, foldG2 vs vs1 t it1 t1 te (seekF want) ds a ρ ω = .ok (.inr x) ρ2 ω2 → x = .bl want := by
  intro ds
  induction ds with
  | nil => intro a ρ ω h; cases h
  | cons d ds ih =>
    intro a ρ ω h
    unfold foldG2 at h
    split at h
    · cases h
    · rename_i ρ1 _
      cases ei : it1 ρ1 ω with
      | bad => rw [ei] at h; cases h
      | exc c ω' => rw [ei] at h; cases h
      | ok ds1 ρ5 ω5 =>
        simp only [ei, Out.thenB] at h
        cases er : foldG vs1 t1 yesT te (seekF want) ds1 a (wipeF vs1 ρ5) ω5 with
        | bad => simp only [er] at h; cases h
        | exc c ω' => simp only [er] at h; cases h
        | ok r ρ6 ω6 =>
          simp only [er] at h
          cases r with
          | inr e => simp only at h; cases h; exact seek_inr er
          | inl a' => exact ih h
theorem sum_inl2 {s : Sum Int D} {ρ2 : Fr} {ω2 : W3} : ∀ {ds : List D} {a : Int} {ρ : Fr} {ω : W3}, foldG2 vs vs1 t it1 t1 te sumF ds a ρ ω = .ok s ρ2 ω2 → ∃ x, s = .inl x := by
  intro ds
  induction ds with
  | nil => intro a ρ ω h; cases h; exact ⟨_, rfl⟩
  | cons d ds ih =>
    intro a ρ ω h
    unfold foldG2 at h
    split at h
    · cases h
    · rename_i ρ1 _
      cases ei : it1 ρ1 ω with
      | bad => rw [ei] at h; cases h
      | exc c ω' => rw [ei] at h; cases h
      | ok ds1 ρ5 ω5 =>
        simp only [ei, Out.thenB] at h
        cases er : foldG vs1 t1 yesT te sumF ds1 a (wipeF vs1 ρ5) ω5 with
        | bad => simp only [er] at h; cases h
        | exc c ω' => simp only [er] at h; cases h
        | ok r ρ6 ω6 =>
          simp only [er] at h
          cases r with
          | inr e => obtain ⟨x, hx⟩ := sum_inl er; cases hx
          | inl a' => exact ih h
theorem i_seek2 {want : Bool} {it : EM (List D)} {P : Addr} {gp : Nat × Nat} (hsl : ∀ i ∈ slots, i ∈ vs) (hsl1 : ∀ i ∈ slots1, i ∈ vs1) (hv : ∀ i ∈ vs1, i ∈ vs) (hP : TabFree B.g P gp) : ∀ σ H Q, RdE B (seek2M want vs vs1 it t it1 t1 te) σ H Q → tSeekG want (tGen2 P gp vs vs1 (RdIB B it) (ExG B t slots) (ExIf B it1) (ExG B t1 slots1) (ExE B te)) σ H Q := fun σ H Q ⟨Z, ρ, ω, j, h⟩ => by
  refine ⟨Z, ρ, ω, j, ?_⟩
  unfold seek2M fold2M at h
  cases ea : it ρ ω with
  | bad => simp only [ea, Out.andThen] at h
  | exc c ω' => simp only [ea, Out.andThen] at h; exact h
  | ok ds ρ1 ω1 =>
    simp only [ea, Out.andThen] at h
    intro Z1 H1 It e1 z1 j1 w
    have tg := hP.tg j1.good
    refine ⟨tg, fun H2 ht => ?_⟩
    have ex : Ext B.g H1 H2 := Ext.tabbed tg ht.1
    have kk : Kp Z1 H1 Z1 H2 := .of j1.good (fun _ z => z) ex
    by_cases hno : noOwn vs ρ1 = true
    · simp only [hno, if_true] at h
      have ja : J (B.blk fun _ => False) Z1 (wipeF vs ρ1) (L2.wipe σ vs) H2 ω1 := ((j1.genStart hP ht).toBlk (R := fun _ => False) fun p hp => hp.elim).wipe vs
      refine fold_loop2 (R := fun _ => False) (a0 := ()) hsl hsl1 hv (w.weak fun Z H z => ⟨kk.trans z.1, ex.trans z.2⟩) crel_seek ja .refl .refl trivial ?_
      cases ec : foldG2 vs vs1 t it1 t1 te (seekF want) ds () (wipeF vs ρ1) ω1 with
      | bad => simp only [ec, Out.thenB] at h
      | exc c ω' => simp only [ec, Out.thenB] at h
      | ok x ρ2 ω2 =>
        simp only [ec, Out.thenB] at h
        intro Z' H' j2 k2 e2
        have jr : J B Z' ρ2 (L2.wipe σ vs) H' ω2 := j2.ofBlk0 (R := fun _ => False)
        have jf := J.rest j1 jr (kk.trans k2) hno
        have q := fun b => h Z' (.bl b) H' (e1.trans (ex.trans e2)) (fun p z => k2.sub p (z1 p z)) jf
        cases x with
        | inl a => exact q (!want) (.bl _)
        | inr e =>
          have := seek_inr2 ec
          subst this
          exact ⟨rfl, q want (.bl _)⟩
    · simp only [hno, if_false] at h
      exact h.elim
theorem i_sum2 {it : EM (List D)} {P : Addr} {gp : Nat × Nat} (hsl : ∀ i ∈ slots, i ∈ vs) (hsl1 : ∀ i ∈ slots1, i ∈ vs1) (hv : ∀ i ∈ vs1, i ∈ vs) (hP : TabFree B.g P gp) : ∀ σ H Q, RdE B (sum2M vs vs1 it t it1 t1 te) σ H Q → tSumG (tGen2 P gp vs vs1 (RdIB B it) (ExG B t slots) (ExIf B it1) (ExG B t1 slots1) (ExE B te)) σ H Q := fun σ H Q ⟨Z, ρ, ω, j, h⟩ => by
  refine ⟨Z, ρ, ω, j, ?_⟩
  unfold sum2M fold2M at h
  cases ea : it ρ ω with
  | bad => simp only [ea, Out.andThen] at h
  | exc c ω' => simp only [ea, Out.andThen] at h; exact h
  | ok ds ρ1 ω1 =>
    simp only [ea, Out.andThen] at h
    intro Z1 H1 It e1 z1 j1 w
    have tg := hP.tg j1.good
    refine ⟨tg, fun H2 ht S hS => ?_⟩
    have ex : Ext B.g H1 H2 := Ext.tabbed tg ht.1
    have kk : Kp Z1 H1 Z1 H2 := .of j1.good (fun _ z => z) ex
    by_cases hno : noOwn vs ρ1 = true
    · simp only [hno, if_true] at h
      have j2 := j1.genStart hP ht
      obtain ⟨s1, s2, s3, s4, s5⟩ := fresh_of j2 hS
      have gr : Grow B.g Z1 H2 Z1 (upd H2 S (.lst [.int 0])) := grow_new0 hS
      have j3 := j2.grow gr
      have ja : J (B.blk fun p => p = S) Z1 (wipeF vs ρ1) (L2.wipe σ vs) (upd H2 S (.lst [.int 0])) ω1 := (j3.toBlk (R := fun p => p = S) fun p hp => by subst hp; exact ⟨s1, by rw [upd_same]; simp, s5⟩).wipe vs
      refine fold_loop2 (R := fun p => p = S) (a0 := (0 : Int)) hsl hsl1 hv (w.weak fun Z H z => ⟨kk.trans z.1, ex.trans z.2⟩) (crel_sum (B := B.blk fun p => p = S) (.inr rfl) s3 s2 hS) ja (.of j2.good (fun _ z => z) gr.ext) gr.ext upd_same ?_
      cases ec : foldG2 vs vs1 t it1 t1 te sumF ds 0 (wipeF vs ρ1) ω1 with
      | bad => simp only [ec, Out.thenB] at h
      | exc c ω' => simp only [ec, Out.thenB] at h
      | ok x ρ2 ω2 =>
        simp only [ec, Out.thenB] at h
        intro Z' H' j2 k2 e2
        have jr : J B Z' ρ2 (L2.wipe σ vs) H' ω2 := j2.ofBlk0 (R := fun p => p = S)
        have jf := J.rest j1 jr (kk.trans k2) hno
        obtain ⟨a, rfl⟩ := sum_inl2 ec
        exact h Z' (.int a) H' (e1.trans (ex.trans e2)) (fun p z => k2.sub p (z1 p z)) jf (.int a)
    · simp only [hno, if_false] at h
      exact h.elim
end
section
variable {X : Cx} {B : Bc}
theorem gm_fl2 {c P : Addr} {elt tg iter tg1 iter1 : Expr} {scope : Scope} {own : List (Str × Nat)} {vs1 : List Nat} {gpos : Pos} {it it1 : EM (List D)} {slots slots1 : List Nat} {t t1 : TM} {te : EM D} {k : Nat}
    (hr : Room k X.A) (ev : GenEv X B c P (gpos.line, gpos.col)) (ok : BlkOk X.N X.env.scope scope own) (nc : (scope.names.all fun y => !decide (y.2 = .cell)) = true) (dot0 : scope.names.lookup (".0" : Str) = some NameKind.local) (hco : scope.isCoroutine = false)
    (hi : PI X tg iter (RdIB B it)) (hs : ∀ v, genFold iter X.env v = pure v) (hv : ∀ i ∈ vs1, i ∈ own.map (·.2)) (hs1 : ∀ C code x, foldedSetIterable iter1 (genEnv scope (cloFrom X.env.cells scope.names []) C code builtinsNs X.env) x = pure x)
    (pg : ∀ R s0 H0 C code fp pn, PG (genCx X X.A.in1.in1 s0 H0 (genEnv scope (cloFrom X.env.cells scope.names []) C code builtinsNs X.env) fp pn) tg (RdG (B.blk R) t slots))
    (pi1 : ∀ R s0 H0 C code fp pn, PI (genCx X X.A.in1.in1 s0 H0 (genEnv scope (cloFrom X.env.cells scope.names []) C code builtinsNs X.env) fp pn) tg1 iter1 (RdI (B.blk R) it1))
    (pg1 : ∀ R s0 H0 C code fp pn, PG (genCx X X.A.in1.in1 s0 H0 (genEnv scope (cloFrom X.env.cells scope.names []) C code builtinsNs X.env) fp pn) tg1 (RdG (B.blk R) t1 slots1))
    (pe : ∀ R s0 H0 C code fp pn, PE (genCx X X.A.in1.in1 s0 H0 (genEnv scope (cloFrom X.env.cells scope.names []) C code builtinsNs X.env) fp pn) elt (RdE (B.blk R) te)) :
    GM X (GE2 elt tg iter tg1 iter1 scope gpos) (own.map (·.2)) (tGen2 P (gpos.line, gpos.col) (own.map (·.2)) vs1 (RdIB B it) (ExG B t slots) (ExIf B it1) (ExG B t1 slots1) (ExE B te)) :=
  gm_two hr ev.calm ev.nd ev.tb ev.code ok (fun y hy e => by have := List.all_eq_true.mp nc y hy; rw [e] at this; simp at this) ev.dot dot0 hco hi hs hv hs1 (fun s0 H0 C code fp pn => x_g fun R => pg R s0 H0 C code fp pn) (fun s0 H0 C code fp pn => x_if fun R => pi1 R s0 H0 C code fp pn) (fun s0 H0 C code fp pn => x_g fun R => pg1 R s0 H0 C code fp pn) fun s0 H0 C code fp pn => x_e fun R => pe R s0 H0 C code fp pn
theorem m_any2 {P : Addr} {gp : Nat × Nat} {e : Expr} {vs vs1 slots slots1 : List Nat} {it it1 : EM (List D)} {t t1 : TM} {te : EM D} {p pos : Pos} {k : Nat} (hr : Room k X.A) (hb : Bn X.mg) (hP : TabFree B.g P gp) (hsl : ∀ i ∈ slots, i ∈ vs) (hsl1 : ∀ i ∈ slots1, i ∈ vs1) (hv : ∀ i ∈ vs1, i ∈ vs)
    (h : GM X e vs (tGen2 P gp vs vs1 (RdIB B it) (ExG B t slots) (ExIf B it1) (ExG B t1 slots1) (ExE B te))) (hg : Gl X "any" := by rfl) (he : starEach [e] X.env = (false, eval e X.env) :: starEach [] X.env := by rfl) : PE X (.Call (.Name "any" p) [e] [] pos) (RdE B (seek2M true vs vs1 it t it1 t1 te)) :=
  PE.imp (pe_anyG hr hg hb.any h he) (i_seek2 hsl hsl1 hv hP)
theorem m_all2 {P : Addr} {gp : Nat × Nat} {e : Expr} {vs vs1 slots slots1 : List Nat} {it it1 : EM (List D)} {t t1 : TM} {te : EM D} {p pos : Pos} {k : Nat} (hr : Room k X.A) (hb : Bn X.mg) (hP : TabFree B.g P gp) (hsl : ∀ i ∈ slots, i ∈ vs) (hsl1 : ∀ i ∈ slots1, i ∈ vs1) (hv : ∀ i ∈ vs1, i ∈ vs)
    (h : GM X e vs (tGen2 P gp vs vs1 (RdIB B it) (ExG B t slots) (ExIf B it1) (ExG B t1 slots1) (ExE B te))) (hg : Gl X "all" := by rfl) (he : starEach [e] X.env = (false, eval e X.env) :: starEach [] X.env := by rfl) : PE X (.Call (.Name "all" p) [e] [] pos) (RdE B (seek2M false vs vs1 it t it1 t1 te)) :=
  PE.imp (pe_allG hr hg hb.all h he) (i_seek2 hsl hsl1 hv hP)
theorem m_sum2 {P : Addr} {gp : Nat × Nat} {e : Expr} {vs vs1 slots slots1 : List Nat} {it it1 : EM (List D)} {t t1 : TM} {te : EM D} {p pos : Pos} {k : Nat} (hr : Room k X.A) (hb : Bn X.mg) (hP : TabFree B.g P gp) (hsl : ∀ i ∈ slots, i ∈ vs) (hsl1 : ∀ i ∈ slots1, i ∈ vs1) (hv : ∀ i ∈ vs1, i ∈ vs)
    (h : GM X e vs (tGen2 P gp vs vs1 (RdIB B it) (ExG B t slots) (ExIf B it1) (ExG B t1 slots1) (ExE B te))) (hg : Gl X "sum" := by rfl) (he : starEach [e] X.env = (false, eval e X.env) :: starEach [] X.env := by rfl) : PE X (.Call (.Name "sum" p) [e] [] pos) (RdE B (sum2M vs vs1 it t it1 t1 te)) :=
  PE.imp (pe_sumG hr hg hb.sum h he) (i_sum2 hsl hsl1 hv hP)
end
end L2.Fl

namespace L2.Fl
open PySem PySem.Spec PyProof.Rows GenW

/-! ### a lambda handed to a def that tells what it gives or how it is refused -/
/-- a def's table that holds lambdas' codes -/
structure TabLam (g : Gd) (P : Addr) (L : Nat → Nat → Option Str) : Prop where
  mem : (P, L) ∈ g.T
  only : ∀ p ∈ g.T, p.1 = P → p.2 = L
theorem among_at {pos p' : Pos} {c cv : Value} (l : List Value) (h : TriplesOk l) (hc : codeAmong p' (l ++ [rawInt pos.line, rawInt pos.col, c]) = some cv) : codeAmong p' l = some cv ∨ (cv = c ∧ p'.line = pos.line ∧ p'.col = pos.col) := by
  fun_induction TriplesOk l with
  | case1 =>
    simp only [List.nil_append, rawInt, codeAmong] at hc
    split at hc
    · rename_i q
      refine .inr ⟨(Option.some.inj hc).symm, ?_⟩
      simp only [Bool.and_eq_true, beq_iff_eq] at q
      exact ⟨by omega, by omega⟩
    · cases hc
  | case2 a t b u x rest ih =>
    simp only [List.cons_append, codeAmong] at hc ⊢
    split at hc
    · rename_i q
      rw [if_pos q]; exact .inl hc
    · rename_i q
      rw [if_neg q]; exact ih h hc
  | case3 l h1 h2 => exact h.elim
section
variable {X : Cx} {pins : List (Addr × Obj)} {σ : L2.St} {H : Hp} {s : Shared}
theorem lam_mk {c P : Addr} {L : Nat → Nat → Option Str} {params : Arguments} {body : Expr} {scope : Scope} {pos : Pos} {E Q : Value → Shared → Prop} (I : Inv X pins σ H s) (TB : LamX.TabB X.base X.mg c P) (hcode : X.env.code = .ref c) (hT : TabP H (P, L)) (hL : L pos.line pos.col = some (X.env.qual ++ "<lambda>"))
    (hdef : defaultsOf params X.env = ([], [])) (hfree : ∀ y ∈ scope.names, y.2 = .free → ∃ c, X.env.cells.lookup y.1 = some c)
    (h : ∀ (f c' : Addr) (pm ctv : Value) (H1 : Hp) (s' : Shared), Inv X pins σ H1 s' → (∀ b o, b ≠ P → H b = some o → H1 b = some o) → (∀ b, H1 b = none → H b = none) → TabP H1 (P, L) →
      s'.heap.get? f = some (PySem.W.kla_obj "<lambda>" (X.env.qual ++ "<lambda>") params body scope (cloFrom X.env.cells scope.names []) pm c' ctv) → H1 f = none → f ∉ frs X.stack → H1 c' = some (LamX.CodeO c' (X.env.qual ++ "<lambda>")) → Q (.ref f) s') :
    wpAny (model X.prog X.w) X.A (eval (.Lambda params body scope pos) X.env) Q E s := by
  obtain ⟨ps, hP, ht, ha⟩ := id hT
  refine PySem.W.kla_eval hdef ?_
  have bP := TB.bm.keeps I.bk
  have hP' := I.hok P _ hP
  have nofr : ∀ f, s.heap.objs.size ≤ f → f ∉ frs X.stack := fun f hf z => by
    rcases List.mem_cons.mp (I.stkSub _ z) with e | e
    · exact absurd (Nat.lt_of_lt_of_le (e ▸ I.lt) hf) (Nat.lt_irrefl _)
    · exact I.nofs hf e
  cases hc : codeAmong pos ps.toList with
  | none =>
    refine PySem.W.kla_makeFunction (mg := X.mg) (closure_ok hfree) I.ok.glob (I.mod.glob.keeps I.bk) hcode (TB.code.keeps I.bk) hP' ht hc TB.gP bP fun c' ctv h' tk hx hge hlt hrec htb => ?_
    obtain ⟨c2, oc, vs, t, e2, hoc, hd, hv⟩ := hrec
    cases e2
    have hsz : s.heap.objs.size ≤ h'.objs.size := Nat.le_trans hge (Nat.le_of_lt hlt)
    have nC : H c' = none := I.hok.fresh hge
    have nPc : P ≠ c' := ne_of_none hP nC
    have I1 := LamX.inv_table (q := X.env.qual ++ "<lambda>") (t' := tk) (more := #[rawInt pos.line, rawInt pos.col, .ref c']) (h' := h'.push (PySem.W.kla_obj "<lambda>" (X.env.qual ++ "<lambda>") params body scope (cloFrom X.env.cells scope.names []) ((X.mg "__name__").getD .none) c' ctv)) I hP
      (fun b o hb e => Heap.get?_push_of_some _ (hx b o hb e)) (Heap.get?_push_of_some _ htb) hge ⟨oc, vs, t, Heap.get?_push_of_some _ hoc, hd, hv⟩
    have hE : ∀ b o, b ≠ P → H b = some o → upd (upd H P (.tbl (ps ++ #[rawInt pos.line, rawInt pos.col, .ref c']))) c' (LamX.CodeO c' (X.env.qual ++ "<lambda>")) b = some o := fun b o nb e => by
      rw [upd_ne (ne_of_none e nC), upd_ne nb]; exact e
    refine h h'.objs.size c' _ ctv _ _ I1 hE (fun b e => ?_) ?_ (Heap.get?_push_size _ rfl) ?_ (nofr _ hsz) upd_same
    · by_cases h1 : b = c'
      · rw [h1, upd_same] at e; cases e
      · rw [upd_ne h1] at e
        by_cases h2 : b = P
        · rw [h2, upd_same] at e; cases e
        · rw [upd_ne h2] at e; exact e
    · refine ⟨ps ++ #[rawInt pos.line, rawInt pos.col, .ref c'], by rw [upd_ne nPc, upd_same], ?_, fun p' cv q hq hcv => ?_⟩
      · rw [show (ps ++ #[rawInt pos.line, rawInt pos.col, Value.ref c']).toList = ps.toList ++ [rawInt pos.line, rawInt pos.col, .ref c'] by simp]
        exact PySem.TriplesOk_snoc _ _ _ _ ht
      · rw [show (ps ++ #[rawInt pos.line, rawInt pos.col, Value.ref c']).toList = ps.toList ++ [rawInt pos.line, rawInt pos.col, .ref c'] by simp] at hcv
        rcases among_at _ ht hcv with z | ⟨z, zl, zc⟩
        · obtain ⟨c0, e1, e2⟩ := ha p' cv q hq z
          refine ⟨c0, e1, hE _ _ (fun e => ?_) e2⟩
          rw [e, hP] at e2; cases e2
        · have hq : L p'.line p'.col = some q := hq
          rw [zl, zc, hL] at hq
          cases hq
          exact ⟨c', z, upd_same⟩
    · rw [upd_ne (Nat.ne_of_gt hlt), upd_ne (Nat.ne_of_gt (Nat.lt_of_lt_of_le (Heap.lt_size hP') hsz))]
      exact I.hok.fresh hsz
  | some cv =>
    obtain ⟨c', e, hco⟩ := ha pos cv _ hL hc
    subst e
    refine PySem.W.kla_makeFunctionHit (mg := X.mg) (closure_ok hfree) I.ok.glob (I.mod.glob.keeps I.bk) hcode (TB.code.keeps I.bk) hP' ht hc bP fun ctv h' tk hx hsz => ?_
    have I1 : Inv X pins σ H { s with heap := h'.push (PySem.W.kla_obj "<lambda>" (X.env.qual ++ "<lambda>") params body scope (cloFrom X.env.cells scope.names []) ((X.mg "__name__").getD .none) c' ctv), toks := tk } := I.kept fun b o e => Heap.get?_push_of_some _ (hx b o e)
    exact h h'.objs.size c' _ ctv H _ I1 (fun _ _ _ e => e) (fun _ e => e) hT (Heap.get?_push_size _ rfl) (I.hok.fresh hsz) (nofr _ hsz) hco
end
/-! what the def makes of it -/
def wT (K : PySem.W.Frag) (Q : VK) : List (Value × Str) → Value → Hp → Prop
  | [], _, _ => False
  | (c, r) :: l, cls, H => ∃ b, PySem.W.exmOne K cls c = some b ∧ (b = true → Q (.str r) H) ∧ (b = false → wT K Q l cls H)
def hdl (l : List (Value × Str)) : List (Value × (Addr → Value → Option Addr → TS)) := l.map fun x => (x.1, fun _ _ _ => tRet (tC (.str x.2)))
theorem wT_many {K : PySem.W.Frag} {Wout : WX} {D : Ends} {d : Option Addr} {σ : L2.St} {cls : Value} {H : Hp} : ∀ {l : List (Value × Str)}, wT K D.rt l cls H → wMany K Wout D (hdl l) cls d σ H
  | [], h => h.elim
  | (c, r) :: l, ⟨b, h1, h2, h3⟩ => ⟨b, h1, fun hb a _ => h2 hb, fun hb => wT_many (h3 hb)⟩
def TTm (K : PySem.W.Frag) (l : List (Value × Str)) : (XK → Hp → VK → Prop) → Hp → VK → Prop := fun tl H Q => ∃ Ech : XK, tl Ech H Q ∧ ∀ cls d H', Ech cls d H' → wT K Q l cls H'
theorem told_many {X : Cx} {Ng : List Str} {x a q : Str} {sg : Scope} {g : Addr} {cdg : Value} {l : List (Value × Str)} {h₀ : ExceptHandler} {hds : List ExceptHandler} {p1 p2 p3 p8 : Pos} (h0 : ∀ f : Addr, (L2.start Ng [V.ref f])[0]? = some (some (V.ref f)))
    (hh : ∀ (A : Around) (outer : List Env) (s : Shared) (H : Hp), HdsOk (cxOf C8.CX0 X.prog X.w X.K X.mg X.base Ng x sg g cdg A outer s H C8.E0).nox (h₀ :: hds) (hdl l)) :
    LamX.GivesTo X Ng x sg g cdg [.Try [.Return (some (.Call (.Name a p1) [] [] p2)) p3] (h₀ :: hds) [] [] p8] a q (TTm X.K l) := by
  intro f c' s H Q tl act hc ⟨Ech, h1, h2⟩
  refine ⟨_, pss_one (ps_try_many (X := (cxOf C8.CX0 X.prog X.w X.K X.mg X.base Ng x sg g cdg X.A X.stack s H C8.E0).nox)
      (tb := fun W D σ H => ∃ Ech : XK, (∀ cls d σ' H', Ech cls d H' → W cls d σ' H') ∧ σ[0]? = some (some (.ref f)) ∧ H c' = some (LamX.CodeO c' q) ∧ tl Ech H D.rt) (Wout := fun _ _ _ _ => False)
      rfl rfl LamX.takes0 (fun W pn xe tk _ => ?_) (hh _ _ _ _)), ?_⟩
  · refine ⟨fun pins s' σ H' D I h' => ?_⟩
    obtain ⟨Ech, hW, h1, h2, h3⟩ := h'
    exact (pss_one (ps_ret (pos := p3) (act W pn xe Ech p1 p2 tk hW))).run pins s' σ H' D I ⟨h1, h2, h3⟩
  · exact ⟨Ech, fun cls d σ' H' e => wT_many (D := { nx := fun _ H' => Q .non H', rt := Q }) (h2 cls d H' e), h0 f, hc, h1⟩
/-- x(lambda: body) by a table told by places -/
def tLamP (P : Addr) (L : Nat → Nat → Option Str) (TT : (XK → Hp → VK → Prop) → Hp → VK → Prop) (t : XK → TE) : TE := fun σ H Q => TabP H (P, L) ∧ ∀ H1, (∀ b o, b ≠ P → H b = some o → H1 b = some o) → (∀ b, H1 b = none → H b = none) → TabP H1 (P, L) → TT (fun E H' Q' => t E σ H' Q') H1 Q
/-- a known def of one parameter that calls what it is given -/
structure ToldFn (P : Program) (w : World) (K : PySem.W.Frag) (mg : Str → Option Value) (base : Heap) (x : Str) (l : List (Value × Str)) : Prop where
  run : ∀ X : Cx, X.prog = P → X.w = w → X.K = K → X.mg = mg → X.base = base → ∃ (a : Str) (g : Addr) (pg : Arguments) (bg : List Stmt) (sg : Scope) (dV kV doc pm cdv ct oc : Value) (an od : Option Addr) (osl : Array (Option Value)) (Ng : List Str),
    mg x = some (.ref g) ∧ PySem.W.keepIn K (.ref g) = true ∧ K.lookup g = some ⟨oc, od, .func (PySem.W.fnOf x x pg bg sg dV kV doc pm an cdv ct), osl⟩ ∧ PySem.W.codeIn K cdv x = true ∧ L2.Binds K (PySem.W.fnOf x x pg bg sg dV kV doc pm an cdv ct) [a] [] ∧ FnScope Ng [a] sg ∧ Ng[0]? = some a ∧ Vis sg a ∧
    (a == ("__debug__" : Str)) = false ∧ (a == ("__classdict__" : Str)) = false ∧ ∀ q, LamX.GivesTo X Ng x sg g cdv bg a q (TTm K l)
section
variable {X : Cx}
theorem pe_lamP {l : List (Value × Str)} {x : Str} {c P : Addr} {L : Nat → Nat → Option Str} {k : Nat} {params : Arguments} {body : Expr} {scope : Scope} {t : XK → TE} {p lpos pos : Pos} (T : ToldFn X.prog X.w X.K X.mg X.base x l) (hg : Gl X x)
    (TB : LamX.TabB X.base X.mg c P) (hcode : X.env.code = .ref c) (hL : L lpos.line lpos.col = some (X.env.qual ++ "<lambda>")) (hr : Room (k + 2) X.A) (S : LamX.LamS X.env.scope scope) (hdef : defaultsOf params X.env = ([], []))
    (hbind : ∀ (q : Str) (cl : List (Str × Addr)) (pm cv ctv : Value), bindArgs (PySem.W.kla_fn "<lambda>" q params body scope cl pm cv ctv) ⟨[], []⟩ = pure [])
    (hbody : ∀ (A : Around) (outer : List Env) (s : Shared) (H : Hp) (E : XK) (f c' : Addr), Room k (A.deeper (LamX.lamEnv X scope s.heap.objs.size f c')) → PE (LamX.lamCx X A outer s H E scope f c') body (t E))
    (hdb : (x == ("__debug__" : Str)) = false := by decide) :
    PE X (.Call (.Name x p) [.Lambda params body scope lpos] [] pos) (tLamP P L (TTm X.K l) t) := by
  refine ⟨fun pins s σ H Q I h => ?_⟩
  obtain ⟨hT, h⟩ := h
  obtain ⟨a, g, pg, bg, sg, dV, kV, doc, pm, cdv, ct, oc, an, od, osl, Ng, hm, hk, lk, hcg, hb, Sg, hNg, hva, hd, hcd, hG⟩ := T.run X rfl rfl rfl rfl rfl
  refine wpAny_Call_Name_kw (ld_glob I hg hm ?_ hdb)
  refine PySem.W.callWith_K (h₀ := X.base) I.ok.mod.kin hk ?_ (by rfl) (by rfl)
  show wpAny _ _ (spliced ((false, eval (.Lambda params body scope lpos) X.env) :: backTo pos (starEach [] X.env))) _ _ s
  refine Calls.spliced_cons (lam_mk I TB hcode hT hL hdef (S.has I.ok) fun f c' pm' ctv H1 s' I1 eN dN T1 hf hfn hfr hco => ?_)
  refine Calls.spliced_nil ⟨I1.kIn, ?_⟩
  have rc : codeAny (model X.prog X.w) X.A (.call (.ref g) ⟨[.ref f], []⟩) (CR C8.CX0 X.stack X.prog X.w H1 s' Q C8.E0) s' := by
    refine LamX.run_ofS (ps := [a]) (us := [.ref f]) (vs := [.ref f]) lk hcg Sg hr I1.env0 (hb s' [.ref f] I1.kIn rfl) (.cons rfl .nil) rfl fun hr' => ?_
    obtain ⟨t', ht', hq'⟩ := hG _ f c' s' H1 Q (fun E H' Q' => t E σ H' Q') (fun W pn xe E p1 p2 tk hW => LamX.pe_act (i := 0) I1 S hf hfn hfr (hbind _ _ _ _ _) tk hW hr' (fun A outer s H hr2 => hbody A outer s H E f c' hr2) hNg hva hd hcd) hco (h H1 eN dN T1)
    exact ⟨t', ht'.nox, hq'⟩
  refine wpAny_call (codeAny_mono rc fun r s2 hq => ?_)
  cases r with
  | error e => exact (show False from hq).elim
  | ok fl =>
    cases fl with
    | ret u => exact I1.after hq
    | next => exact False.elim hq
    | brk => exact False.elim hq
    | cont => exact False.elim hq
end
/-! ### as plain data -/
def frzN : Nat → Fr → Fr
  | 0, ρ => ρ
  | n + 1, ρ => match ρ[n]? with
    | some (.own d) => frzN n (ρ.set n (.val d))
    | _ => frzN n ρ
def frzF (ρ : Fr) : Fr := frzN ρ.length ρ
theorem frzN_len : ∀ (n : Nat) (ρ : Fr), (frzN n ρ).length = ρ.length
  | 0, _ => rfl
  | n + 1, ρ => by
    unfold frzN
    split
    · rw [frzN_len n, List.length_set]
    · exact frzN_len n ρ
section
variable {B : Bc} {σ : L2.St} {H : Hp} {ω : W3}
theorem J.frzN : ∀ (n : Nat) {Z : Addr → Prop} {ρ : Fr}, J B Z ρ σ H ω → ∃ Z', (∀ p, Z p → Z' p) ∧ J B Z' (Fl.frzN n ρ) σ H ω
  | 0, Z, ρ, j => ⟨Z, fun _ h => h, j⟩
  | n + 1, Z, ρ, j => by
    unfold Fl.frzN
    split
    · rename_i d e
      obtain ⟨p, h1, h2, h3, h4, h5, h6⟩ := j.own n d e
      obtain ⟨Z', s, j'⟩ := J.frzN n (j.freeze e h1 h2 h4 h5 h6).1
      exact ⟨Z', fun p z => s p (.inl z), j'⟩
    · exact J.frzN n j
/-- nothing is one's own any more -/
theorem J.frz {Z : Addr → Prop} {ρ : Fr} (j : J B Z ρ σ H ω) : ∃ Z', (∀ p, Z p → Z' p) ∧ J B Z' (frzF ρ) σ H ω := j.frzN _
theorem frzN_own : ∀ (n : Nat) (ρ : Fr) (i : Nat) (d : D), i < n → (Fl.frzN n ρ)[i]? ≠ some (.own d)
  | 0, _, _, _, h => absurd h (Nat.not_lt_zero _)
  | n + 1, ρ, i, d, h => by
    have hk : ∀ (m : Nat) (ρ : Fr) (i : Nat) (d : D), ρ[i]? ≠ some (.own d) → (Fl.frzN m ρ)[i]? ≠ some (.own d) := by
      intro m
      induction m with
      | zero => intro ρ i d h; exact h
      | succ m ih =>
        intro ρ i d h
        unfold Fl.frzN
        split
        · refine ih _ i d ?_
          by_cases e : m = i
          · subst e
            by_cases hl : m < ρ.length
            · rw [List.getElem?_set_self hl]; simp
            · rw [List.getElem?_eq_none (by simp; omega)]; simp
          · rw [List.getElem?_set_ne e]; exact h
        · exact ih _ i d h
    unfold Fl.frzN
    by_cases e : i = n
    · subst e
      split
      · refine hk _ _ _ _ ?_
        rename_i d' e'
        rw [List.getElem?_set_self (List.getElem?_eq_some_iff.mp e').1]; simp
      · rename_i hno
        refine hk _ _ _ _ fun z => hno d z
    · split
      · exact frzN_own n _ i d (by omega)
      · exact frzN_own n _ i d (by omega)
theorem frzF_own (ρ : Fr) (i : Nat) (d : D) : (frzF ρ)[i]? ≠ some (.own d) := fun e => by
  have hl : i < (frzF ρ).length := (List.getElem?_eq_some_iff.mp e).1
  unfold frzF at hl
  rw [frzN_len] at hl
  exact frzN_own _ ρ i d hl e
end
def toldM (hs : List (Nat × Str)) (fm : EM D) : EM D := fun ρ ω => match fm (frzF ρ) ω with
  | .ok d ρ' ω' => .ok d ρ' ω'
  | .exc c ω' => (match hs.lookup c with
    | some r => .ok (.str r) (frzF ρ) ω'
    | none => .bad)
  | .bad => .bad
/-- the classes told are apart -/
structure ExmOk (K : PySem.W.Frag) (cls : Nat → Addr) (hs : List (Nat × Str)) : Prop where
  one : ∀ c ∈ hs.map (·.1), ∀ h ∈ hs, PySem.W.exmOne K (.ref (cls c)) (.ref (cls h.1)) = some (decide (c = h.1))
theorem wT_of {K : PySem.W.Frag} {cls : Nat → Addr} {Q : VK} {c : Nat} {r : Str} {H : Hp} : ∀ {hs : List (Nat × Str)}, (∀ h ∈ hs, PySem.W.exmOne K (.ref (cls c)) (.ref (cls h.1)) = some (decide (c = h.1))) → hs.lookup c = some r → Q (.str r) H → wT K Q (hs.map fun h => (.ref (cls h.1), h.2)) (.ref (cls c)) H
  | [], _, e, _ => by cases e
  | (c', r') :: hs, h, e, q => by
    refine ⟨decide (c = c'), h (c', r') List.mem_cons_self, fun hb => ?_, fun hb => ?_⟩
    · have := of_decide_eq_true hb
      subst this
      simp only [List.lookup, BEq.rfl] at e
      cases e; exact q
    · have ne : c ≠ c' := of_decide_eq_false hb
      have ne' : (c == c') = false := by simpa using ne
      simp only [List.lookup, ne'] at e
      exact wT_of (fun h' m => h h' (List.mem_cons_of_mem _ m)) e q
/-- the lambda's reading, for some ground -/
def ExLE (G : G0) (pd : Option Addr) (E : XK) (f : EM D) : TE := fun σ H Q => ∃ B, BOf G B ∧ B.g = G.at pd ∧ B.E = E ∧ B.Rz = (fun _ => False) ∧ RdE B f σ H Q
theorem mem_lookup' {c : Nat} {r : Str} : ∀ {hs : List (Nat × Str)}, hs.lookup c = some r → c ∈ hs.map (·.1)
  | [], e => by cases e
  | (c', r') :: hs, e => by
    by_cases h : c = c'
    · subst h; exact List.mem_cons_self
    · have ne' : (c == c') = false := by simpa using h
      simp only [List.lookup, ne'] at e
      exact List.mem_cons_of_mem _ (mem_lookup' e)
section
variable {X : Cx} {B : Bc} {G : G0}
theorem i_told {hs : List (Nat × Str)} {fm : EM D} {P : Addr} {L : Nat → Nat → Option Str} {K : PySem.W.Frag} (hB : BOf G B) (hP : TabLam B.g P L) (hx : ExmOk K B.cls hs) :
    ∀ σ H Q, RdE B (toldM hs fm) σ H Q → tLamP P L (TTm K (hs.map fun h => (.ref (B.cls h.1), h.2))) (fun E σ H Q => ∃ pd, ExLE G pd E fm σ H Q) σ H Q := fun σ H Q ⟨Z, ρ, ω, j, h⟩ => by
  refine ⟨j.good.tabs _ hP.mem, fun H1 eN dN T1 => ?_⟩
  obtain ⟨Z1, s1, j1⟩ := j.frz
  obtain ⟨ps, hps, _⟩ := j.good.tabs _ hP.mem
  have nP : ∀ p o, H p = some o → Fix o → p ≠ P := fun p o e f z => by
    rw [z, hps] at e; cases e; exact f ps rfl
  have ex : Ext B.g H H1 := ⟨fun p o e _ f => eN p o (nP p o e f) e, dN⟩
  have gd1 : Good B.g Z1 H1 ω := by
    refine ⟨fun p z => ?_, fun q e => eN q _ (nP q _ (j1.good.dice q e) fix_lst) (j1.good.dice q e), fun p hp => ?_⟩
    · obtain ⟨n, o, e, f⟩ := j1.good.zs p z
      exact ⟨n, o, eN p o (nP p o e f) e, f⟩
    · by_cases e : p.1 = P
      · have e2 := hP.only p hp e
        obtain ⟨p1, p2⟩ := p
        simp only at e e2
        subst e e2
        exact T1
      · obtain ⟨ps', a, b, c⟩ := j1.good.tabs p hp
        refine ⟨ps', eN _ _ e a, b, fun pos cv q e1 e2 => ?_⟩
        obtain ⟨c', e3, e4⟩ := c pos cv q e1 e2
        refine ⟨c', e3, eN _ _ (fun z => ?_) e4⟩
        rw [z, hps] at e4; cases e4
  have j2 : J B Z1 (frzF ρ) σ H1 ω := j1.called ex (fun _ z => z) (fun _ z => .inl z) gd1
  let B' : Bc := { g := B.g, H0 := H1, Z0 := Z1, cls := B.cls, Ex := fun c ω' => fm (frzF ρ) ω = .exc c ω', E := fun cls d H' => ∃ c ω' Z', cls = .ref (B.cls c) ∧ fm (frzF ρ) ω = .exc c ω' ∧ Ext B.g H1 H' ∧ Good B.g Z' H' ω' ∧ DOk d H', Rz := fun _ => False, hE := fun c ω' d H' Z' e ex gd dk => ⟨c, ω', Z', rfl, e, ex, gd, dk⟩ }
  have jB : J B' Z1 (frzF ρ) σ H1 ω := ⟨gd1, .refl, fun _ z => z, fun _ z => .inl z, j2.len, j2.val, fun i d e => absurd e (frzF_own ρ i d), fun _ z => z.elim, fun i k d e p h1 => absurd h1 (frzF_own ρ i d)⟩
  unfold toldM at h
  obtain ⟨pd, hpd⟩ := hB.g
  refine ⟨B'.E, ⟨pd, B', ⟨hB.g, hB.cls⟩, hpd, rfl, rfl, Z1, frzF ρ, ω, jB, ?_⟩, ?_⟩
  · cases ef : fm (frzF ρ) ω with
    | bad => simp only [ef] at h
    | exc c ω' => simp only [ef]; exact ef
    | ok d ρ' ω' =>
      simp only [ef] at h
      intro Z' v H' e' z' j' r'
      refine h Z' v H' (ex.trans e') (fun p z => z' p (s1 p z)) ?_ r'
      have rz : ∀ p, B.Rz p → ¬ Z' p := fun p rp z => by
        rcases j'.zn p z with z | z
        · exact (j2.res p rp).1 z
        · exact (j2.res p rp).2 z
      exact ⟨j'.good, j2.ext.trans e', fun p z => z' p (j2.z0 p z), fun p z => by
        rcases j'.zn p z with z | z
        · exact j2.zn p z
        · exact .inr (j2.ext.dom p z), j'.len, j'.val, fun i d e => by
        obtain ⟨p, q1, q2, q3, q4, q5, q6⟩ := j'.own i d e
        exact ⟨p, q1, q2, q3, q4, j2.ext.dom p q5, fun rp => (j2.res p rp).2 q5⟩, fun p rp => ⟨rz p rp, fun z => (j2.res p rp).2 (e'.dom p z)⟩, j'.sep⟩
  · rintro cls d H' ⟨c, ω', Z', rfl, ef, ex', gd', _⟩
    simp only [ef] at h
    cases el : hs.lookup c with
    | none => simp only [el] at h
    | some r =>
      simp only [el] at h
      have gd2 : Good B.g Z1 H' ω' := ⟨fun p z => by
        obtain ⟨n, o, e, f⟩ := gd1.zs p z
        exact ⟨n, o, ex'.keep p o e n f, f⟩, gd'.dice, gd'.tabs⟩
      refine wT_of (fun h' m => hx.one c (mem_lookup' el) h' m) el (h Z1 (.str r) H' (ex.trans ex') s1 (j2.called ex' (fun _ z => z) (fun _ z => .inl z) gd2) (.str r))
/-- what a lambda's place asks of the def -/
structure LamEv (X : Cx) (B : Bc) (c P : Addr) (L : Nat → Nat → Option Str) : Prop where
  tb : LamX.TabB X.base X.mg c P
  lam : TabLam B.g P L
  code : X.env.code = .ref c
theorem m_told {hs : List (Nat × Str)} {fm : EM D} {x : Str} {c P : Addr} {L : Nat → Nat → Option Str} {k : Nat} {params : Arguments} {body : Expr} {scope : Scope} {p lpos pos : Pos} (hB : BOf G B) (ev : LamEv X B c P L) (hx : ExmOk X.K B.cls hs) (T : ToldFn X.prog X.w X.K X.mg X.base x (hs.map fun h => (.ref (B.cls h.1), h.2))) (hr : Room (k + 2) X.A)
    (S : LamX.lamSB X.env.scope scope = true) (hL : L lpos.line lpos.col = some (X.env.qual ++ "<lambda>"))
    (hbody : ∀ (A : Around) (outer : List Env) (s : Shared) (H : Hp) (f c' : Addr) (B : Bc), BOf G B → B.Rz = (fun _ => False) → Room k (A.deeper (LamX.lamEnv X scope s.heap.objs.size f c')) → PE (LamX.lamCx X A outer s H B.E scope f c') body (RdE B fm))
    (hg : Gl X x := by rfl) (hdef : defaultsOf params X.env = ([], []) := by rfl) (hdb : (x == ("__debug__" : Str)) = false := by decide)
    (hbind : ∀ (q : Str) (cl : List (Str × Addr)) (pm cv ctv : Value), bindArgs (PySem.W.kla_fn "<lambda>" q params body scope cl pm cv ctv) ⟨[], []⟩ = pure [] := by intros; rfl) :
    PE X (.Call (.Name x p) [.Lambda params body scope lpos] [] pos) (RdE B (toldM hs fm)) :=
  PE.imp (pe_lamP (t := fun E σ H Q => ∃ pd, ExLE G pd E fm σ H Q) T hg ev.tb ev.code hL hr (LamX.lamS_by S) hdef hbind (fun A outer s H E f c' hr2 => ⟨fun pins s' σ H' Q I ⟨pd, B', hB', _, hE, hz, q⟩ => by
    subst hE
    exact (hbody A outer s H f c' B' hB' hz hr2).run pins s' σ H' Q I q⟩) hdb) (i_told hB ev.lam hx)
end
end L2.Fl

namespace L2.Fl
open PySem PySem.Spec PyProof.Rows

/-! ### several names at once, some of them for new things of one's own -/
inductive MV where
  | v (d : D) | o (d : D)
def Bc.rsv (B : Bc) (R : Addr → Prop) : Bc := { B with Rz := fun p => B.Rz p ∨ R p }
theorem BOf.rsv {G : G0} {B : Bc} (h : BOf G B) (R : Addr → Prop) : BOf G (B.rsv R) := ⟨h.g, h.cls⟩
/-- a new thing, nobody's yet -/
structure Own1 (B : Bc) (Z : Addr → Prop) (ρ : Fr) (σ : L2.St) (H : Hp) (d : D) (p : Addr) : Prop where
  ro : RO B.g.tk Z H d p
  nz : ¬ Z p
  np : B.g.pd ≠ some p
  h0 : B.H0 p = none
  nr : ¬ B.Rz p
  no : ∀ (k : Nat) (e : D), ρ[k]? = some (.own e) → σ[k]? ≠ some (some (.ref p))
def RdFO (B : Bc) (f : EM D) : TE := fun σ H Q => ∃ Z ρ ω, J B Z ρ σ H ω ∧ match f ρ ω with
  | .ok d ρ' ω' => ∀ (Z' : Addr → Prop) (p : Addr) (H' : Hp), Ext B.g H H' → (∀ p, Z p → Z' p) → J B Z' ρ' σ H' ω' → Own1 B Z' ρ' σ H' d p → Q (.ref p) H'
  | .exc c ω' => B.Ex c ω'
  | .bad => False
def lstD (f : EM (List D)) : EM D := fun ρ ω => (f ρ ω).andThen fun ds ρ ω => .ok (.lst ds) ρ ω
def RM1 (B : Bc) (Z : Addr → Prop) (ρ : Fr) (σ : L2.St) (H : Hp) : MV → V → Prop
  | .v d, v => RD B.g.tk Z H d v
  | .o d, v => ∃ p, v = .ref p ∧ Own1 B Z ρ σ H d p
inductive RMs (B : Bc) (Z : Addr → Prop) (ρ : Fr) (σ : L2.St) (H : Hp) : List MV → List V → Prop
  | nil : RMs B Z ρ σ H [] []
  | cons {m : MV} {v : V} {ms : List MV} {vs : List V} : RM1 B Z ρ σ H m v → RMs B Z ρ σ H ms vs → (∀ d, m = .o d → ∀ (k : Nat) (d' : D), ms[k]? = some (.o d') → vs[k]? ≠ some v) → RMs B Z ρ σ H (m :: ms) (v :: vs)
def RdAM (B : Bc) (f : EM (List MV)) : TA := fun σ H Q => ∃ Z ρ ω, J B Z ρ σ H ω ∧ match f ρ ω with
  | .ok ms ρ' ω' => ∀ (Z' : Addr → Prop) (vs : List V) (H' : Hp), Ext B.g H H' → (∀ p, Z p → Z' p) → J B Z' ρ' σ H' ω' → RMs B Z' ρ' σ H' ms vs → Q vs H'
  | .exc c ω' => B.Ex c ω'
  | .bad => False
def ExAM (B : Bc) (f : EM (List MV)) : TA := fun σ H Q => ∃ R, RdAM (B.rsv R) f σ H Q
def nilX : EM (List MV) := fun ρ ω => .ok [] ρ ω
def consX (f : EM D) (r : EM (List MV)) : EM (List MV) := fun ρ ω => (f ρ ω).andThen fun x ρ ω => (r ρ ω).andThen fun xs ρ ω => .ok (.v x :: xs) ρ ω
def consO (f : EM D) (r : EM (List MV)) : EM (List MV) := fun ρ ω => (f ρ ω).andThen fun x ρ ω => (r ρ ω).andThen fun xs ρ ω => .ok (.o x :: xs) ρ ω
section
variable {B : Bc} {Z Z' : Addr → Prop} {ρ ρ' : Fr} {σ : L2.St} {H H' : Hp} {ω ω' : W3}
theorem J.toRsv {R : Addr → Prop} (j : J B Z ρ σ H ω) (hR : ∀ p, R p → ¬ Z p ∧ H p ≠ none ∧ ∀ (i : Nat) (d : D), ρ[i]? = some (.own d) → σ[i]? ≠ some (some (.ref p))) : J (B.rsv R) Z ρ σ H ω :=
  ⟨j.good, j.ext, j.z0, j.zn, j.len, j.val, fun i d e => by
    obtain ⟨p, h1, h2, h3, h4, h5, h6⟩ := j.own i d e
    exact ⟨p, h1, h2, h3, h4, h5, fun z => z.elim h6 fun rp => (hR p rp).2.2 i d e h1⟩, fun p rp => rp.elim (j.res p) fun rp => ⟨(hR p rp).1, (hR p rp).2.1⟩, j.sep⟩
theorem J.ofRsv {R : Addr → Prop} (j : J (B.rsv R) Z ρ σ H ω) : J B Z ρ σ H ω :=
  ⟨j.good, j.ext, j.z0, j.zn, j.len, j.val, fun i d e => by
    obtain ⟨p, h1, h2, h3, h4, h5, h6⟩ := j.own i d e
    exact ⟨p, h1, h2, h3, h4, h5, fun z => h6 (.inl z)⟩, fun p rp => j.res p (.inl rp), j.sep⟩
theorem RM1.ofRsv {R : Addr → Prop} {m : MV} {v : V} (r : RM1 (B.rsv R) Z ρ σ H m v) : RM1 B Z ρ σ H m v := by
  cases m with
  | v d => exact r
  | o d =>
    obtain ⟨p, e, h⟩ := r
    exact ⟨p, e, h.ro, h.nz, h.np, h.h0, fun z => h.nr (.inl z), h.no⟩
theorem RMs.ofRsv {R : Addr → Prop} : ∀ {ms : List MV} {vs : List V}, RMs (B.rsv R) Z ρ σ H ms vs → RMs B Z ρ σ H ms vs
  | _, _, .nil => .nil
  | _, _, .cons a b c => .cons a.ofRsv (RMs.ofRsv b) c
theorem RMs.not {R : Addr → Prop} {p : Addr} (hp : R p) : ∀ {ms : List MV} {vs : List V}, RMs (B.rsv R) Z ρ σ H ms vs → ∀ (k : Nat) (d' : D), ms[k]? = some (.o d') → vs[k]? ≠ some (.ref p)
  | _, _, .nil, k, d', e => by simp at e
  | _, _, .cons a b c, 0, d', e => by
    simp only [List.getElem?_cons_zero, Option.some.injEq] at e
    subst e
    obtain ⟨q, rfl, h⟩ := a
    intro z
    simp only [List.getElem?_cons_zero, Option.some.injEq, V.ref.injEq] at z
    exact h.nr (.inr (z ▸ hp))
  | _, _, .cons a b c, k + 1, d', e => by
    simp only [List.getElem?_cons_succ] at e ⊢
    exact RMs.not hp b k d' e
theorem RMs.length : ∀ {ms : List MV} {vs : List V}, RMs B Z ρ σ H ms vs → ms.length = vs.length
  | _, _, .nil => rfl
  | _, _, .cons _ b _ => congrArg (· + 1) b.length
end
section
variable {X : Cx} {B : Bc} {e : Expr} {es : List Expr} {pos : Pos} {st : Stmt}
theorem fo_lst {f : EM (List D)} (h : PE X e (RdF B f)) : PE X e (RdFO B (lstD f)) := PE.imp h fun σ H Q ⟨Z, ρ, ω, j, q⟩ => by
  refine ⟨Z, ρ, ω, j, ?_⟩
  unfold lstD at q
  cases ea : f ρ ω with
  | bad => simp only [ea, Out.andThen] at q
  | exc c ω' => simp only [ea, Out.andThen] at q; exact q
  | ok ds ρ1 ω1 =>
    simp only [ea, Out.andThen] at q
    exact fun Z' p vs H' e1 z1 j1 hp r1 nz np h0 nr hn => q Z' p H' e1 z1 j1 ⟨.lst hp r1, nz, np, h0, nr, hn⟩
theorem x_nil : PA X [] (RdAM B nilX) := PA.imp pa_nil fun σ H Q ⟨Z, ρ, ω, j, h⟩ => h Z [] H .refl (fun _ z => z) j .nil
theorem x_am {f : EM (List MV)} (h : ∀ R, PA X es (RdAM (B.rsv R) f)) : PA X es (ExAM B f) := ⟨fun pos pins s σ H Q I ⟨R, q⟩ => (h R).run pos pins s σ H Q I q⟩
theorem x_v {f : EM D} {r : EM (List MV)} (ha : PE X e (RdE B f)) (hr : PA X es (RdAM B r)) (hs : starEach (e :: es) X.env = (false, eval e X.env) :: starEach es X.env := by rfl) : PA X (e :: es) (RdAM B (consX f r)) := PA.imp (pa_cons ha hr hs) fun σ H Q ⟨Z, ρ, ω, j, h⟩ => by
  refine ⟨Z, ρ, ω, j, ?_⟩
  unfold consX at h
  cases ea : f ρ ω with
  | bad => simp only [ea, Out.andThen] at h
  | exc c ω' => simp only [ea, Out.andThen] at h; exact h
  | ok d ρ1 ω1 =>
    simp only [ea, Out.andThen] at h
    intro Z1 x H1 e1 z1 j1 r1
    refine ⟨Z1, ρ1, ω1, j1, ?_⟩
    cases er : r ρ1 ω1 with
    | bad => simp only [er] at h
    | exc c ω' => simp only [er] at h; exact h
    | ok ms ρ2 ω2 =>
      simp only [er] at h
      intro Z2 vs H2 e2 z2 j2 r2
      exact h Z2 (x :: vs) H2 (e1.trans e2) (fun p z => z2 p (z1 p z)) j2 (.cons (r1.ext j1.good z2 e2) r2 fun d h => nomatch h)
theorem x_o {f : EM D} {r : EM (List MV)} (ha : PE X e (RdFO B f)) (hr : ∀ R, PA X es (RdAM (B.rsv R) r)) (hs : starEach (e :: es) X.env = (false, eval e X.env) :: starEach es X.env := by rfl) : PA X (e :: es) (RdAM B (consO f r)) := PA.imp (pa_cons ha (x_am hr) hs) fun σ H Q ⟨Z, ρ, ω, j, h⟩ => by
  refine ⟨Z, ρ, ω, j, ?_⟩
  unfold consO at h
  cases ea : f ρ ω with
  | bad => simp only [ea, Out.andThen] at h
  | exc c ω' => simp only [ea, Out.andThen] at h; exact h
  | ok d ρ1 ω1 =>
    simp only [ea, Out.andThen] at h
    intro Z1 p H1 e1 z1 j1 o1
    obtain ⟨ob, hob, hf⟩ := o1.ro.there
    have jR : J (B.rsv fun q => q = p) Z1 ρ1 σ H1 ω1 := j1.toRsv fun q hq => by subst hq; exact ⟨o1.nz, by rw [hob]; simp, o1.no⟩
    refine ⟨fun q => q = p, Z1, ρ1, ω1, jR, ?_⟩
    cases er : r ρ1 ω1 with
    | bad => simp only [er] at h
    | exc c ω' => simp only [er] at h; exact h
    | ok ms ρ2 ω2 =>
      simp only [er] at h
      intro Z2 vs H2 e2 z2 j2 r2
      have o2 : Own1 B Z2 ρ2 σ H2 d p := ⟨o1.ro.ext j1.good z2 e2 o1.np, (j2.res p (.inr rfl)).1, o1.np, o1.h0, o1.nr, fun k e ek ez => by
        obtain ⟨q, q1, q2, q3, q4, q5, q6⟩ := j2.own k e ek
        rw [ez] at q1
        cases q1
        exact q6 (.inr rfl)⟩
      exact h Z2 (.ref p :: vs) H2 (e1.trans e2) (fun p z => z2 p (z1 p z)) j2.ofRsv (.cons ⟨p, rfl, o2⟩ r2.ofRsv fun _ _ => RMs.not (R := fun q => q = p) rfl r2)
end
def setMV (i : Nat) (m : MV) (ρ : Fr) : Fr := ρ.set i (match m with
  | .v d => .val d
  | .o d => .own d)
section
variable {B : Bc} {Z : Addr → Prop} {ρ : Fr} {σ : L2.St} {H : Hp} {ω : W3}
theorem RMs.keepS {ρ' : Fr} {σ' : L2.St} : ∀ {ms : List MV} {vs : List V}, RMs B Z ρ σ H ms vs → (∀ (j : Nat) (d' : D) (p : Addr), ms[j]? = some (.o d') → vs[j]? = some (.ref p) → (∀ (k : Nat) (e : D), ρ[k]? = some (.own e) → σ[k]? ≠ some (some (.ref p))) → ∀ (k : Nat) (e : D), ρ'[k]? = some (.own e) → σ'[k]? ≠ some (some (.ref p))) → RMs B Z ρ' σ' H ms vs
  | _, _, .nil, _ => .nil
  | _, _, .cons (m := m) a b c, h => .cons (by
      cases m with
      | v d => exact a
      | o d =>
        obtain ⟨p, e, q⟩ := a
        subst e
        exact ⟨p, rfl, q.ro, q.nz, q.np, q.h0, q.nr, h 0 d p rfl rfl q.no⟩) (RMs.keepS b fun j d' p e1 e2 => h (j + 1) d' p (by simpa using e1) (by simpa using e2)) c
theorem RMs.set1 {m : MV} {v : V} {ms : List MV} {vs : List V} {i : Nat} (j : J B Z ρ σ H ω) (r : RMs B Z ρ σ H (m :: ms) (v :: vs)) : J B Z (setMV i m ρ) (σ.set i (some v)) H ω ∧ RMs B Z (setMV i m ρ) (σ.set i (some v)) H ms vs := by
  cases r with
  | cons a b c =>
    have old : ∀ (k : Nat) (e : D), k ≠ i → (setMV i m ρ)[k]? = some (.own e) → ρ[k]? = some (.own e) := fun k e hk h => by
      unfold setMV at h
      rw [List.getElem?_set_ne (Ne.symm hk)] at h
      exact h
    cases m with
    | v d =>
      refine ⟨j.setVal a, b.keepS fun q d' p e1 e2 h k e ek => ?_⟩
      by_cases hk : k = i
      · subst hk
        unfold setMV at ek
        have hl : k < ρ.length := by
          have := (List.getElem?_eq_some_iff.mp ek).1
          simpa using this
        rw [List.getElem?_set_self hl] at ek
        cases ek
      · rw [List.getElem?_set_ne (Ne.symm hk)]
        exact h k e (old k e hk ek)
    | o d =>
      obtain ⟨p, rfl, o⟩ := a
      refine ⟨j.setOwn o.ro o.nz o.np o.h0 o.nr o.no, b.keepS fun q d' p' e1 e2 h k e ek => ?_⟩
      by_cases hk : k = i
      · subst hk
        have hne := c d rfl q d' e1
        rw [e2] at hne
        by_cases hl : k < σ.length
        · rw [List.getElem?_set_self hl]
          intro z
          simp only [Option.some.injEq] at z
          exact hne (by rw [z])
        · rw [List.getElem?_eq_none (by simpa using hl)]; simp
      · rw [List.getElem?_set_ne (Ne.symm hk)]
        exact h k e (old k e hk ek)
end
/-- a, b = e1, e2 and a, b, c = e1, e2, e3, by names -/
def par2 (i k : Nat) (f : EM (List MV)) : SM := fun ρ ω => (f ρ ω).stm fun ms ρ ω => match ms with
  | [a, b] => .nx (setMV k b (setMV i a ρ)) ω
  | _ => .bad
def par3 (i k l : Nat) (f : EM (List MV)) : SM := fun ρ ω => (f ρ ω).stm fun ms ρ ω => match ms with
  | [a, b, c] => .nx (setMV l c (setMV k b (setMV i a ρ))) ω
  | _ => .bad
section
variable {X : Cx} {B : Bc} {e tg : Expr} {es : List Expr} {pos : Pos} {st : Stmt}
theorem s_par2 {i k : Nat} {f : EM (List MV)} (h : PS X st (tPar i k (RdAM B f))) : PS X st (RdS B (par2 i k f)) := PS.imp h fun D σ H ⟨Z, ρ, ω, j, q⟩ => by
  refine ⟨Z, ρ, ω, j, ?_⟩
  unfold par2 at q
  cases ea : f ρ ω with
  | bad => simp only [ea, Out.stm] at q; exact q
  | exc c ω' => simp only [ea, Out.stm] at q; exact q
  | ok ms ρ1 ω1 =>
    simp only [ea, Out.stm] at q
    intro Z1 vs H1 e1 z1 j1 r1
    match ms, r1, q with
    | [a, b], .cons (v := x) ra (.cons (v := y) rb .nil h2) h1, q =>
      obtain ⟨j2, r2⟩ := RMs.set1 (i := i) j1 (.cons ra (.cons rb .nil h2) h1)
      obtain ⟨j3, _⟩ := RMs.set1 (i := k) j2 r2
      exact ⟨x, y, rfl, q Z1 _ H1 (.of j.good z1 e1) j3⟩
    | [], _, q => exact q.elim
    | [_], _, q => exact q.elim
    | _ :: _ :: _ :: _, _, q => exact q.elim
theorem s_par3 {i k l : Nat} {f : EM (List MV)} (h : PS X st (tPar3 i k l (RdAM B f))) : PS X st (RdS B (par3 i k l f)) := PS.imp h fun D σ H ⟨Z, ρ, ω, j, q⟩ => by
  refine ⟨Z, ρ, ω, j, ?_⟩
  unfold par3 at q
  cases ea : f ρ ω with
  | bad => simp only [ea, Out.stm] at q; exact q
  | exc c ω' => simp only [ea, Out.stm] at q; exact q
  | ok ms ρ1 ω1 =>
    simp only [ea, Out.stm] at q
    intro Z1 vs H1 e1 z1 j1 r1
    match ms, r1, q with
    | [a, b, c], .cons (v := x) ra (.cons (v := y) rb (.cons (v := z) rc .nil h3) h2) h1, q =>
      obtain ⟨j2, r2⟩ := RMs.set1 (i := i) j1 (.cons ra (.cons rb (.cons rc .nil h3) h2) h1)
      obtain ⟨j3, r3⟩ := RMs.set1 (i := k) j2 r2
      obtain ⟨j4, _⟩ := RMs.set1 (i := l) j3 r3
      exact ⟨x, y, z, rfl, q Z1 _ H1 (.of j.good z1 e1) j4⟩
    | [], _, q => exact q.elim
    | [_], _, q => exact q.elim
    | [_, _], _, q => exact q.elim
    | _ :: _ :: _ :: _ :: _, _, q => exact q.elim
/-! by a tuple that is taken apart -/
abbrev TX := MV → Fr → Option Fr
def ptT (t : TM) : TX := fun m ρ => match m with
  | .v d => t d ρ
  | .o _ => none
def owT (i : Nat) : TX := fun m ρ => match m with
  | .o d => some (ρ.set i (.own d))
  | .v _ => none
abbrev TXs := List MV → Fr → Option Fr
def nilTX : TXs := fun ms ρ => match ms with
  | [] => some ρ
  | _ => none
def consTX (t : TX) (u : TXs) : TXs := fun ms ρ => match ms with
  | m :: ms => (match t m ρ with
    | some ρ1 => u ms ρ1
    | none => none)
  | [] => none
/-- a target leaves no new thing of one's own in the names it stores -/
def ValT (t : TM) (sl : List Nat) : Prop := ∀ d ρ ρ', t d ρ = some ρ' → ∀ (k : Nat) (e : D), ρ'[k]? = some (.own e) → ρ[k]? = some (.own e) ∧ k ∉ sl
theorem valT_nm {i : Nat} : ValT (nmT i) [i] := fun d ρ ρ' h k e ek => by
  cases h
  by_cases hk : i = k
  · subst hk
    have hl : i < ρ.length := by
      have := (List.getElem?_eq_some_iff.mp ek).1
      simpa using this
    rw [List.getElem?_set_self hl] at ek
    cases ek
  · rw [List.getElem?_set_ne hk] at ek
    exact ⟨ek, by simp; exact fun z => hk z.symm⟩
def ValTs (t : TMs) (sl : List Nat) : Prop := ∀ d ρ ρ', t d ρ = some ρ' → ∀ (k : Nat) (e : D), ρ'[k]? = some (.own e) → ρ[k]? = some (.own e) ∧ k ∉ sl
theorem valT_nil : ValTs nilT [] := fun d ρ ρ' h k e ek => by
  cases d with
  | nil => cases h; exact ⟨ek, by simp⟩
  | cons _ _ => cases h
theorem valT_cons {t : TM} {u : TMs} {sl sl' : List Nat} (h1 : ValT t sl) (h2 : ValTs u sl') : ValTs (consT t u) (sl ++ sl') := fun d ρ ρ' h k e ek => by
  cases d with
  | nil => cases h
  | cons d ds =>
    simp only [consT] at h
    cases et : t d ρ with
    | none => simp only [et] at h; cases h
    | some ρ1 =>
      simp only [et] at h
      obtain ⟨a, b⟩ := h2 ds ρ1 ρ' h k e ek
      obtain ⟨c, d⟩ := h1 _ _ _ et k e a
      exact ⟨c, fun z => (List.mem_append.mp z).elim d b⟩
theorem valT_tup {t : TMs} {sl : List Nat} (h : ValTs t sl) : ValT (tupT t) sl := fun d ρ ρ' e => by
  cases d with
  | tup ds => exact h ds ρ ρ' e
  | _ => cases e
/-- what a store among several may change: frozen things stay, and what is no slot's own -/
structure Chg (B : Bc) (ρ : Fr) (σ : L2.St) (Z : Addr → Prop) (H : Hp) (Z' : Addr → Prop) (H' : Hp) : Prop where
  kp : Kp Z H Z' H'
  zn : ∀ p, Z' p → Z p ∨ H p = none
  keep : ∀ p u, H p = some u → B.g.pd ≠ some p → Fix u → (∀ (k : Nat) (e : D), ρ[k]? = some (.own e) → σ[k]? ≠ some (some (.ref p))) → H' p = some u
theorem Chg.refl {B : Bc} {ρ : Fr} {σ : L2.St} {Z : Addr → Prop} {H : Hp} : Chg B ρ σ Z H Z H := ⟨.refl, fun _ z => .inl z, fun _ _ h _ _ _ => h⟩
theorem RMs.chg {B : Bc} {ρ : Fr} {σ : L2.St} {Z Z' : Addr → Prop} {H H' : Hp} (c : Chg B ρ σ Z H Z' H') : ∀ {ms : List MV} {vs : List V}, RMs B Z ρ σ H ms vs → RMs B Z' ρ σ H' ms vs
  | _, _, .nil => .nil
  | _, _, .cons (m := m) a b h => .cons (by
      cases m with
      | v d => exact RD.kp c.kp a
      | o d =>
        obtain ⟨p, e, q⟩ := a
        obtain ⟨u, hu, fu⟩ := q.ro.there
        refine ⟨p, e, q.ro.mono c.kp.sub c.kp.keep fun u' hu' => c.keep p u' hu' q.np (by rw [hu] at hu'; cases hu'; exact fu) q.no, fun z => ?_, q.np, q.h0, q.nr, q.no⟩
        rcases c.zn p z with z | z
        · exact q.nz z
        · rw [hu] at z; cases z) (RMs.chg c b) h
def RdGX (B : Bc) (t : TX) (sl : List Nat) : TG := fun v σ H Q => ∃ Z ρ ω m, J B Z ρ σ H ω ∧ RM1 B Z ρ σ H m v ∧ match t m ρ with
  | some ρ' => ∀ (Z' : Addr → Prop) (σ' : L2.St) (H' : Hp), Chg B ρ σ Z H Z' H' → J B Z' ρ' σ' H' ω → (∀ (p : Addr), (∀ d, m = .o d → v ≠ .ref p) → (∀ (k : Nat) (e : D), ρ[k]? = some (.own e) → σ[k]? ≠ some (some (.ref p))) → ∀ (k : Nat) (e : D), ρ'[k]? = some (.own e) → σ'[k]? ≠ some (some (.ref p))) → Q σ' H'
  | none => False
def RdGXs (B : Bc) (t : TXs) : TGs := fun vs σ H Q => ∃ Z ρ ω ms, J B Z ρ σ H ω ∧ RMs B Z ρ σ H ms vs ∧ match t ms ρ with
  | some ρ' => ∀ (Z' : Addr → Prop) (σ' : L2.St) (H' : Hp), Kp Z H Z' H' → J B Z' ρ' σ' H' ω → Q σ' H'
  | none => False
theorem gx_pt {t : TM} {sl : List Nat} (hv : ValT t sl) (h : PG X tg (RdG B t sl)) : PG X tg (RdGX B (ptT t) sl) := PG.imp h fun v σ H Q ⟨Z, ρ, ω, m, j, r, q⟩ => by
  cases m with
  | o d => exact q.elim
  | v d =>
    simp only [ptT] at q
    refine ⟨Z, ρ, ω, d, j, r, ?_⟩
    cases et : t d ρ with
    | none => simp only [et] at q
    | some ρ' =>
      simp only [et] at q
      intro σ' h1 l1 j1
      refine q Z σ' H .refl j1 fun p _ hp k e ek => ?_
      obtain ⟨a, b⟩ := hv _ _ _ et k e ek
      rw [h1 k b]
      exact hp k e a
theorem gx_ow {i : Nat} (h : PG X tg (gName i)) : PG X tg (RdGX B (owT i) [i]) := PG.imp h fun v σ H Q ⟨Z, ρ, ω, m, j, r, q⟩ => by
  cases m with
  | v d => exact q.elim
  | o d =>
    obtain ⟨p, rfl, o⟩ := r
    simp only [owT] at q
    refine q Z _ H .refl (j.setOwn o.ro o.nz o.np o.h0 o.nr o.no) fun p' hp' hn k e ek => ?_
    by_cases hk : i = k
    · subst hk
      by_cases hl : i < σ.length
      · rw [List.getElem?_set_self hl]
        intro z
        simp only [Option.some.injEq] at z
        exact hp' d rfl z
      · rw [List.getElem?_eq_none (by simpa using hl)]; simp
    · rw [List.getElem?_set_ne hk] at ek
      rw [List.getElem?_set_ne hk]
      exact hn k e ek
/-- an index that changes nothing -/
def PureM (k : EM D) (kf : Fr → Option D) : Prop := ∀ ρ d, kf ρ = some d → ∀ ω, k ρ ω = .ok d ρ ω
def subT (i : Nat) (kf : Fr → Option D) : TX := fun m ρ => match m, ρ[i]?, kf ρ with
  | .v d, some (.own (.lst ds)), some (.int n) => (match ixN ds.length n with
    | some j => some (ρ.set i (.own (.lst (ds.set j d))))
    | none => none)
  | _, _, _ => none
/-- a store into a thing of one's own: what is still to be stored are values -/
def RdGS (B : Bc) (t : TX) : TG := fun v σ H Q => ∃ Z ρ ω m, J B Z ρ σ H ω ∧ RM1 B Z ρ σ H m v ∧ match t m ρ with
  | some ρ' => ∀ (Z' : Addr → Prop) (σ' : L2.St) (H' : Hp), Kp Z H Z' H' → J B Z' ρ' σ' H' ω → Q σ' H'
  | none => False
def allV : List MV → Bool
  | [] => true
  | .v _ :: ms => allV ms
  | .o _ :: _ => false
theorem RMs.kpV {B : Bc} {ρ ρ' : Fr} {σ σ' : L2.St} {Z Z' : Addr → Prop} {H H' : Hp} (c : Kp Z H Z' H') : ∀ {ms : List MV} {vs : List V}, allV ms = true → RMs B Z ρ σ H ms vs → RMs B Z' ρ' σ' H' ms vs
  | [], _, _, .nil => .nil
  | m :: ms, _, ha, .cons a b h => by
    cases m with
    | v d => exact RMs.cons (m := .v d) (show RM1 B Z' ρ' σ' H' (.v d) _ from RD.kp c a) (RMs.kpV c ha b) (fun d e => by cases e)
    | o d => cases ha
def consTS (t : TX) (u : TXs) : TXs := fun ms ρ => match ms with
  | m :: ms => if allV ms then (match t m ρ with
    | some ρ1 => u ms ρ1
    | none => none) else none
  | [] => none
theorem gx_sub {i : Nat} {k : EM D} {kf : Fr → Option D} (hk : PureM k kf) (h : PG X tg (gSub (tVar i) (RdE B k) rSetL)) : PG X tg (RdGS B (subT i kf)) := PG.imp h fun v σ H Q ⟨Z, ρ, ω, m, j, r, q⟩ => by
  unfold subT at q
  split at q
  · rename_i x ρ' et
    split at et
    · rename_i d ds n ei en
      split at et
      · rename_i jj ej
        cases et
        have r : RD B.g.tk Z H d v := r
        obtain ⟨p, vs0, h1, h2, h3, h4⟩ := j.lstAt ei
        refine ⟨.ref p, h1, Z, ρ, ω, j, ?_⟩
        rw [hk _ _ en]
        intro Z2 y H2 e2 z2 j2 r2
        obtain ⟨p', vs, g1, g2, g3, g4⟩ := j2.lstAt ei
        rw [h1] at g1
        cases g1
        have := BR.int (g := B.g) (.inl r2)
        subst this
        exact ⟨p, vs, n, jj, rfl, rfl, g2, by rw [← g3.length]; exact ej, q Z2 σ _ ((Kp.of j.good z2 e2).trans (kp_upd g4)) (j2.mut ei h1 (.lst upd_same (((r.ext j.good z2 e2).set' jj g3).upd g4)) fix_lst)⟩
      · cases et
    · cases et
  · exact q.elim
theorem gxs_consS {t : TX} {u : TXs} (h1 : PG X e (RdGS B t)) (h2 : PGs X es (RdGXs B u)) (hs : (assignEach (e :: es) X.env).map (·.2) = assign e X.env :: (assignEach es X.env).map (·.2) := by rfl) : PGs X (e :: es) (RdGXs B (consTS t u)) := PGs.imp (pgs_cons h1 h2 hs) fun v σ H Q ⟨Z, ρ, ω, ms, j, r, q⟩ => by
  cases r with
  | nil => exact q.elim
  | @cons m v ms vs ra rb hn =>
    simp only [consTS] at q
    split at q
    · rename_i ρ' et
      split at et
      · rename_i ha
        refine ⟨_, _, rfl, Z, ρ, ω, m, j, ra, ?_⟩
        cases et2 : t m ρ with
        | none => simp only [et2] at et; cases et
        | some ρ1 =>
          simp only [et2] at et
          intro Z1 σ1 H1 c1 j1
          refine ⟨Z1, ρ1, ω, ms, j1, rb.kpV c1 ha, ?_⟩
          rw [et]
          exact fun Z2 σ2 H2 k2 j2 => q Z2 σ2 H2 (c1.trans k2) j2
      · cases et
    · exact q.elim
theorem gxs_nil : PGs X [] (RdGXs B nilTX) := PGs.imp pgs_nil fun v σ H Q ⟨Z, ρ, ω, ms, j, r, q⟩ => by
  cases r with
  | nil => exact ⟨rfl, q Z σ H .refl j⟩
  | cons _ _ _ => exact q.elim
theorem gxs_cons {t : TX} {u : TXs} {sl : List Nat} (h1 : PG X e (RdGX B t sl)) (h2 : PGs X es (RdGXs B u)) (hs : (assignEach (e :: es) X.env).map (·.2) = assign e X.env :: (assignEach es X.env).map (·.2) := by rfl) : PGs X (e :: es) (RdGXs B (consTX t u)) := PGs.imp (pgs_cons h1 h2 hs) fun v σ H Q ⟨Z, ρ, ω, ms, j, r, q⟩ => by
  cases r with
  | nil => exact q.elim
  | @cons m v ms vs ra rb hn =>
    simp only [consTX] at q
    refine ⟨_, _, rfl, Z, ρ, ω, m, j, ra, ?_⟩
    cases et : t m ρ with
    | none => simp only [et] at q
    | some ρ1 =>
      simp only [et] at q
      intro Z1 σ1 H1 c1 j1 k1
      refine ⟨Z1, ρ1, ω, ms, j1, (rb.chg c1).keepS fun jj d' p e1 e2 h => k1 p (fun d hd z => ?_) h, ?_⟩
      · have := hn d hd jj d' e1
        rw [e2, z] at this
        exact this rfl
      · cases eu : u ms ρ1 with
        | none => simp only [eu] at q
        | some ρ2 =>
          simp only [eu] at q
          exact fun Z2 σ2 H2 k2 j2 => q Z2 σ2 H2 (c1.kp.trans k2) j2
/-- a, b, .. = e1, e2, .. -/
def asgM (t : TXs) (f : EM (List MV)) : SM := fun ρ ω => (f ρ ω).stm fun ms ρ ω => if ms.length ≤ LIM then (match t ms ρ with
  | some ρ' => .nx ρ' ω
  | none => .bad) else .bad
theorem Own1.grow {B : Bc} {Z Z' : Addr → Prop} {ρ : Fr} {σ : L2.St} {H H' : Hp} {d : D} {p : Addr} (o : Own1 B Z ρ σ H d p) (g : Grow B.g Z H Z H') : Own1 B Z ρ σ H' d p := ⟨o.ro.grow g, o.nz, o.np, o.h0, o.nr, o.no⟩
theorem RMs.grow {B : Bc} {Z : Addr → Prop} {ρ : Fr} {σ : L2.St} {H H' : Hp} (g : Grow B.g Z H Z H') : ∀ {ms : List MV} {vs : List V}, RMs B Z ρ σ H ms vs → RMs B Z ρ σ H' ms vs
  | _, _, .nil => .nil
  | _, _, .cons (m := m) a b c => .cons (by
      cases m with
      | v d => exact RD.grow g a
      | o d =>
        obtain ⟨p, e, q⟩ := a
        exact ⟨p, e, q.grow (Z' := Z) g⟩) (RMs.grow g b) c
theorem sAsgM {ts es : List Expr} {t : TXs} {f : EM (List MV)} {n : Nat} {k1 k2} {tp vp : Pos} (hc : X.calm = true) (ha : PA X es (RdAM B f)) (hg : PGs X ts (RdGXs B t)) (hl : ∀ ms ρ ρ', t ms ρ = some ρ' → ms.length = n)
    (hn : (assignEach ts X.env).length = n := by rfl) (hst : (assignEach ts X.env).findIdx? (·.1) = none := by rfl)
    (hs : swapsWithSole [.Tuple ts k1 tp] (.Tuple es k2 vp) pos.line X.env = pure false := by rfl) (hw : swappedStores [.Tuple ts k1 tp] (.Tuple es k2 vp) X.env = pure none := by rfl)
    (h1 : (assignEach [.Tuple ts k1 tp] X.env).map (·.2) = [assign (.Tuple ts k1 tp) X.env] := by rfl) : PS X (.Assign [.Tuple ts k1 tp] (.Tuple es k2 vp) pos) (RdS B (asgM t f)) :=
  PS.imp (ps_asg (pe_tup ha) (pg_tup (n := n) hc hg hn hst) hs hw h1) fun D σ H ⟨Z, ρ, ω, j, q⟩ => by
    refine ⟨Z, ρ, ω, j, ?_⟩
    unfold asgM at q
    cases ea : f ρ ω with
    | bad => simp only [ea, Out.stm] at q; exact q
    | exc c ω' => simp only [ea, Out.stm] at q; exact q
    | ok ms ρ1 ω1 =>
      simp only [ea, Out.stm] at q
      intro Z1 vs H1 e1 z1 j1 r1
      by_cases hlim : ms.length ≤ LIM
      · rw [if_pos hlim] at q
        refine ⟨by rw [← r1.length, ← lim_eq]; exact hlim, fun p hp => ?_⟩
        have g : Grow B.g Z1 H1 Z1 (upd H1 p (.tup vs)) := grow_new0 hp
        cases et : t ms ρ1 with
        | none => simp only [et] at q; exact q.elim
        | some ρ2 =>
          simp only [et] at q
          refine ⟨p, vs, rfl, SqT.of upd_same, by rw [← r1.length]; exact hl _ _ _ et, Z1, ρ1, ω1, ms, j1.grow g, r1.grow g, ?_⟩
          rw [et]
          exact fun Z2 σ' H' k2 j' => q Z2 σ' _ ((Kp.of j.good z1 (e1.trans g.ext)).trans k2) j'
      · rw [if_neg hlim] at q
        exact q.elim
theorem lenX_nil : ∀ ms ρ ρ', nilTX ms ρ = some ρ' → ms.length = 0 := fun ms ρ ρ' h => by
  cases ms with
  | nil => rfl
  | cons _ _ => cases h
theorem lenX_cons {t : TX} {u : TXs} {n : Nat} (hu : ∀ ms ρ ρ', u ms ρ = some ρ' → ms.length = n) : ∀ ms ρ ρ', consTX t u ms ρ = some ρ' → ms.length = n + 1 := fun ms ρ ρ' h => by
  cases ms with
  | nil => cases h
  | cons m ms =>
    simp only [consTX] at h
    cases et : t m ρ with
    | none => simp only [et] at h; cases h
    | some ρ1 => simp only [et] at h; rw [List.length_cons, hu _ _ _ h]
theorem lenX_consS {t : TX} {u : TXs} {n : Nat} (hu : ∀ ms ρ ρ', u ms ρ = some ρ' → ms.length = n) : ∀ ms ρ ρ', consTS t u ms ρ = some ρ' → ms.length = n + 1 := fun ms ρ ρ' h => by
  cases ms with
  | nil => cases h
  | cons m ms =>
    simp only [consTS] at h
    split at h
    · cases et : t m ρ with
      | none => simp only [et] at h; cases h
      | some ρ1 => simp only [et] at h; rw [List.length_cons, hu _ _ _ h]
    · cases h
theorem pure_kk {d : D} : PureM (kk d) fun _ => some d := fun _ _ h _ => by cases h; rfl
def vrF (i : Nat) : Fr → Option D := fun ρ => match ρ[i]? with
  | some (.val d) => some d
  | _ => none
theorem pure_vr {i : Nat} : PureM (vr i) (vrF i) := fun ρ d h ω => by
  unfold vrF at h
  unfold vr
  split at h
  · rename_i d' e
    cases h
    rw [e]
  · cases h
theorem pure_bw {i : Nat} : PureM (bw i) (vrF i) := fun ρ d h ω => by
  unfold vrF at h
  unfold bw
  split at h
  · rename_i d' e
    cases h
    rw [e]
  · cases h
def op2F (f : D → D → Option D) (a b : Fr → Option D) : Fr → Option D := fun ρ => match a ρ, b ρ with
  | some x, some y => f x y
  | _, _ => none
theorem pure_op2 {f : D → D → Option D} {a b : EM D} {af bf : Fr → Option D} (ha : PureM a af) (hb : PureM b bf) : PureM (op2 f a b) (op2F f af bf) := fun ρ d h ω => by
  unfold op2F at h
  split at h
  · rename_i x y e1 e2
    unfold op2
    rw [ha _ _ e1]
    simp only [Out.andThen, hb _ _ e2, optM, h]
  · cases h
end
end L2.Fl

namespace PySem
open Sem (wp)
open AutoSeq1 (wpAny_loadPart')
open PySem.W
theorem flMeetsEnum1 {v : Value} {o : Obj} {H : Heap → Prop} (B : Begins v o H) : Meets (Builtin.«enumerate.__new__» ⟨[.type "enumerate", v], []⟩) (fun _ R s => H s.heap ∧
      R (.ok (.ret (.ref (s.heap.push o).objs.size))) { s with heap := (s.heap.push o).push { cls := .type "enumerate", data := .fields #[.none, .bool false, .ref s.heap.objs.size, rawInt 0, .none, .none] } }) :=
  .of_wp fun prog w A R s ⟨h1, h⟩ => by
    obtain ⟨hp, g, d, tk, os⟩ := s
    have hsub := sub_enumerate
    have begin1 : ∀ {A' : Around} {E : Value → Shared → Prop} {Q : Value → Shared → Prop}, Q (.ref hp.objs.size) ⟨hp.push o, g, d, tk, os⟩ → wpAny (model prog w) A' (pyIter v) Q E ⟨hp, g, d, tk, os⟩ := fun q => B.iter prog w _ _ ⟨hp, g, d, tk, os⟩ _ h1 q
    wp_walk using begin1
    refine wpAny_stack_any fun st => wpAny_pure ?_
    split
    · rename_i c _ _ _ _ _
      cases (c == Value.type "enumerate") <;> (wp_walk using begin1; exact ⟨_, rfl, h⟩)
    · wp_walk using begin1
      exact ⟨_, rfl, h⟩
theorem flEnumNew1 {prog : Program} {w : World} {A : Around} {E : Value → Shared → Prop} {s : Shared} {v : Value} {o : Obj} {H : Heap → Prop} {Q : Value → Shared → Prop} (B : Begins v o H) (h1 : H s.heap)
    (h : ∀ h', IsEnum h' (s.heap.objs.size + 1) s.heap.objs.size 0 .none → h'.get? s.heap.objs.size = some o → (∀ b o, s.heap.get? b = some o → h'.get? b = some o) → Q (.ref (s.heap.objs.size + 1)) { s with heap := h' }) :
    wpAny (model prog w) A (call (.type "enumerate") [v]) Q E s := by
  have hz : (s.heap.push o).objs.size = s.heap.objs.size + 1 := Heap.size_push ..
  refine callType_new F.called_enumerate (by decide) (F.typeCall_enumerate_1 _) (F.newCall_enumerate_1 _) (fun obj => F.args_object_init_2 obj _) F.entry_enumerate_new (flMeetsEnum1 B) ⟨h1, ?_⟩
  show _ ∧ _
  rw [hz]
  have he : IsEnum ((s.heap.push o).push { cls := .type "enumerate", data := .fields #[.none, .bool false, .ref s.heap.objs.size, rawInt 0, .none, .none] }) (s.heap.objs.size + 1) s.heap.objs.size 0 .none := by
    have q := Heap.get?_push_size (s.heap.push o) (o := { cls := .type "enumerate", data := .fields #[.none, .bool false, .ref s.heap.objs.size, rawInt 0, .none, .none] }) rfl
    rw [hz] at q; exact q
  exact ⟨⟨_, he, rfl⟩, h _ he (Heap.get?_push_of_some _ (Heap.get?_push_size _ B.free)) fun b o x => Heap.get?_push_of_some _ (Heap.get?_push_of_some _ x)⟩
end PySem
namespace L2.Fl
open PySem PySem.Spec PyProof.Rows

/-! ### enumerate of a tuple -/
def IteT (K : PySem.W.Frag) (a : Addr) : It :=
  ⟨fun i H => ∃ (xs : List V) (x : V), SqT K H a xs ∧ xs[i]? = some x, fun i H v H' => ∃ T x, v = .ref T ∧ H T = none ∧ H' = upd H T (.tup [.int (i : Nat), x]) ∧ ∀ xs, SqT K H a xs → xs[i]? = some x, fun i H => ∃ xs : List V, SqT K H a xs ∧ xs.length = i⟩
theorem walk_enumT {K : PySem.W.Frag} {a : Addr} {xs : List V} : Walk (IteT K a) xs.length (fun H => SqT K H a xs) (YPair (fun i => some (.int (i : Nat))) (fun i => xs[i]?)) := by
  refine ⟨fun i _ hi q => ⟨xs, xs[i], q, by simp [hi]⟩, fun _ q => ⟨xs, q, rfl⟩, fun i H v H' _ q h => ?_⟩
  obtain ⟨T, x, h1, h2, h3, h4⟩ := h
  exact ⟨T, .int (i : Nat), x, h1, h2, h3, rfl, h4 xs q⟩
theorem turn_enumT {P : Program} {w : World} {K : PySem.W.Frag} {elts : List Expr} {kk : Nat} {tpos : Pos} (a e it : Addr) :
    Turn P w K (.Tuple elts kk tpos) (IteT K a) [e, it] e (fun i h => (∃ old, IsEnum h e it ((i : Nat) : Int) old) ∧ h.IsTupleIter it a i ∧ e ≠ it) where
  mem := by simp
  obj := fun i h st b hb => by
    obtain ⟨⟨old, he⟩, ⟨o, ho, hc, hd⟩, _⟩ := st
    rcases (by simpa using hb : b = e ∨ b = it) with z | z
    · rw [z]; exact ⟨_, he, fun v q => nomatch q⟩
    · rw [z]; exact ⟨o, ho, fun v q => by rw [hd] at q; cases q⟩
  keep := fun i h h' st k => let ⟨⟨old, he⟩, hi, hne⟩ := st; ⟨⟨old, k e (by simp) _ he⟩, hi.at fun o q => k it (by simp) o q, hne⟩
  item := by
    intro X hP hw hK hc i pins s σ H E I hf st hg
    subst hP hw hK
    obtain ⟨⟨old, he⟩, hit, hne⟩ := st
    obtain ⟨xs, x, hq, hx⟩ := hg
    obtain ⟨its, rv, p, hz⟩ := I.tuple hq
    obtain ⟨u, hu, ru⟩ := rv.get hx
    have hel : e < s.heap.objs.size := Heap.lt_size he
    have hil : it < s.heap.objs.size := by obtain ⟨_, q, _⟩ := hit; exact Heap.lt_size q
    obtain ⟨po, hpo, pc, pr⟩ := id p
    have hae : a ≠ e := fun z => by rw [z, he] at hpo; cases hpo; exact absurd pc (by simp)
    have hai : a ≠ it := fun z => by obtain ⟨o, q, c, _⟩ := hit; rw [z, q] at hpo; cases hpo; rw [c] at pc; exact absurd pc (by simp)
    refine wpAny_pyNext_enum_itemD (Draws.tuple (show X.A.in1.handled = none from I.ok.hd hc) it a hai its.toArray) he ⟨hit, p⟩ (i := i) (n := its.toArray.size) (by have := (List.getElem?_eq_some_iff.mp hu).1; simpa using this) hne (by simp only [List.mem_cons, List.not_mem_nil, or_false, not_or]; exact ⟨hne, fun z => hae z.symm⟩) fun y h' tk hy ho st' hT hsz hk => ?_
    have ey : y = u := by
      have hy : its.toArray[i]? = some y := hy
      have hu' : its.toArray[i]? = some u := by simpa using hu
      rw [hu'] at hy; exact (Option.some.inj hy).symm
    subst ey
    refine ⟨_, rfl, wpAny_letOwnedTupleGo_enum (s := { s with heap := h', toks := tk + 1 }) ho fun h'' he' sb => ?_⟩
    have hT2 : h''.get? s.heap.objs.size = some { cls := .type "tuple", data := .seq #[.int i tk, y] } := (sb.2 _ (Nat.ne_of_gt hel)).trans hT
    have new : ObjOk X.prog X.w (upd H s.heap.objs.size (.tup [.int (i : Nat), x])) h'' s.heap.objs.size (.tup [.int (i : Nat), x]) := ⟨by show 2 ≤ sizeLine; decide, [.int i tk, y], .cons ⟨_, rfl⟩ (.cons ru .nil), ⟨_, hT2, rfl, _, rfl⟩⟩
    have I1 : Inv X pins σ (upd H s.heap.objs.size (.tup [.int (i : Nat), x])) { s with heap := h'', toks := tk + 1 } :=
      I.turnedNew (ch := [e, it]) (fun b ob hb q => (sb.2 b (fun z => hb (by simp [z]))).trans (hk b ob (fun z => hb (by simp [z])) (fun z => hb (by simp [z])) q)) hf (Nat.le_refl _) new
    refine ⟨.ref s.heap.objs.size, _, I1, rfl, ⟨_, x, rfl, I.hok.fresh (Nat.le_refl _), rfl, fun ys hy => by rw [I.tuple_inj hy hq]; exact hx⟩, ⟨⟨y, ?_⟩, st'.1.at fun o q => (sb.2 it (Ne.symm hne)).trans q, hne⟩, fun b hb => ?_⟩
    · have e1 : ((i + 1 : Nat) : Int) = (i : Int) + 1 := by omega
      rw [e1]; exact he'
    · have hb' : b < s.heap.objs.size := by
        rcases (by simpa using hb : b = e ∨ b = it) with z | z
        · rw [z]; exact hel
        · rw [z]; exact hil
      rw [upd_ne (Nat.ne_of_lt hb')]
      exact (hf b hb).1
  done := by
    intro X hP hw hK hc i pins s σ H E I hf st hg
    subst hP hw hK
    obtain ⟨⟨old, he⟩, hit, hne⟩ := st
    obtain ⟨xs, hq, hx⟩ := hg
    obtain ⟨its, rv, p, hz⟩ := I.tuple hq
    obtain ⟨po, hpo, pc, pr⟩ := id p
    have hai : a ≠ it := fun z => by obtain ⟨o, q, c, _⟩ := hit; rw [z, q] at hpo; cases hpo; rw [c] at pc; exact absurd pc (by simp)
    obtain ⟨f0, f1, f2, f3, f4, f5⟩ := hf it (by simp)
    have hl := rv.length
    have hi : i = its.toArray.size := by simp; omega
    subst hi
    exact wpAny_pyNext_enum_endD (Draws.tuple (show X.A.in1.handled = none from I.ok.hd hc) it a hai its.toArray) he ⟨hit, p⟩ fun h' eb => ⟨rfl, I.turned (t' := s.toks) (fun b o hb q => eb b o hb q) f0 f1 f3 f4 f5⟩
  self := fun A i s Q E st h => let ⟨⟨_, he⟩, _⟩ := st; wpAny_pyIter_enum he h
def iEnumA (K : PySem.W.Frag) (te : TE) : TI := fun σ H R => te σ H fun z H1 => ∃ x, [z] = [x] ∧ ∃ a, x = .ref a ∧ (((∃ xs, SqL K H1 a xs) ∧ R (Ite K a) H1) ∨ ((∃ xs, SqT K H1 a xs) ∧ R (IteT K a) H1))
theorem pi_enumA {X : Cx} {e : Expr} {te : TE} {p pos tpos : Pos} {elts : List Expr} {kk : Nat} (hg : Gl X "enumerate") (hm : X.mg "enumerate" = none) (he : PE X e te) (hs : starEach [e] X.env = (false, eval e X.env) :: starEach [] X.env := by rfl) (hs2 : starEach [e] X.env = [(false, eval e X.env)] := by rfl) :
    PI X (.Tuple elts kk tpos) (.Call (.Name "enumerate" p) [e] [] pos) (iEnumA X.K te) := by
  refine ⟨fun pins s σ H R I h => ?_⟩
  refine Call_ (ld_blt I hg hm boot_enumerate (PyProof.Rows.callWith_type1 (thn ((pa_cons he pa_nil hs).run pos pins s σ H (fun vs H1 => ∃ x, vs = [x] ∧ ∃ a, x = .ref a ∧ (((∃ xs, SqL X.K H1 a xs) ∧ R (Ite X.K a) H1) ∨ ((∃ xs, SqT X.K H1 a xs) ∧ R (IteT X.K a) H1))) I ?_) fun us s1 ⟨vs, H1, I1, r1, q1⟩ => ?_) hs2 rfl))
  · exact h
  obtain ⟨x, rfl, a, rfl, q⟩ := q1
  cases r1 with
  | cons r rr =>
  cases rr
  cases r
  have fp2 : ∀ b ∈ [s1.heap.objs.size + 1, s1.heap.objs.size], FpOk X pins H1 b := fun b hb => by
    have hle : s1.heap.objs.size ≤ b := by
      rcases (by simpa using hb : b = s1.heap.objs.size + 1 ∨ b = s1.heap.objs.size) with z | z <;> omega
    exact I1.fpOk hle (I1.hok.fresh hle)
  rcases q with ⟨⟨xs, hq⟩, q⟩ | ⟨⟨xs, hq⟩, q⟩
  · obtain ⟨its, rv, p', hz⟩ := I1.list hq
    refine call_enumerate_list p'.isList fun h' he hit hsz hk => wpAny_pyIter_enum he ?_
    exact ⟨s1.heap.objs.size + 1, [s1.heap.objs.size + 1, s1.heap.objs.size], _, _, H1, rfl, I1.kept (t' := s1.toks) hk, turn_enum a (s1.heap.objs.size + 1) s1.heap.objs.size, ⟨⟨.none, he⟩, hit, Nat.succ_ne_self _⟩, fp2, q⟩
  · obtain ⟨its, rv, p', hz⟩ := I1.tuple hq
    refine flEnumNew1 (begins_tuple a its.toArray) (show s1.heap.IsTuple a its.toArray from p') fun h' he ho hk => wpAny_pyIter_enum he ?_
    exact ⟨s1.heap.objs.size + 1, [s1.heap.objs.size + 1, s1.heap.objs.size], _, _, H1, rfl, I1.kept (t' := s1.toks) hk, turn_enumT a (s1.heap.objs.size + 1) s1.heap.objs.size, ⟨⟨.none, he⟩, ⟨_, ho, rfl, rfl⟩, Nat.succ_ne_self _⟩, fp2, q⟩
/-! walks that give new pairs -/
theorem wk_pair {g : Gd} {R : (Addr → Prop) → Hp → Prop} {It : L2.It} {ds : List D} {G : Hp → Prop} {f1 f2 : Nat → Option V} (w : Walk It ds.length G (YPair f1 f2)) (hG : ∀ Z H, R Z H → G H)
    (hv : ∀ i Z H, i < ds.length → R Z H → ∃ d1 d2 v1 v2, ds[i]? = some (.tup [d1, d2]) ∧ f1 i = some v1 ∧ f2 i = some v2 ∧ RD g.tk Z H d1 v1 ∧ RD g.tk Z H d2 v2) : Wk g R It ds :=
  ⟨G, _, w, hG, fun i H x H' Z ω hi gd r y => by
    obtain ⟨T, v1, v2, rfl, hT, rfl, e1, e2⟩ := y
    obtain ⟨d1, d2, u1, u2, h1, h2, h3, r1, r2⟩ := hv i Z H hi r
    rw [e1] at h2; cases h2
    rw [e2] at h3; cases h3
    exact ⟨_, .tup [d1, d2], grow_new hT fix_tup, h1, rd_newT (g := g) hT (.cons r1 (.cons r2 .nil))⟩⟩
def pairUp (xs ys : List D) : List D := (xs.zip ys).map fun p => .tup [p.1, p.2]
def enumL (xs : List D) : List D := pairUp (rangeL 0 xs.length) xs
theorem pairUp_len (xs ys : List D) : (pairUp xs ys).length = min xs.length ys.length := by simp [pairUp]
theorem pairUp_get {xs ys : List D} {i : Nat} {x y : D} (h1 : xs[i]? = some x) (h2 : ys[i]? = some y) : (pairUp xs ys)[i]? = some (.tup [x, y]) := by
  unfold pairUp
  rw [List.getElem?_map, show (xs.zip ys)[i]? = some (x, y) from List.getElem?_zip_eq_some.mpr ⟨h1, h2⟩]; rfl
theorem enumL_len (xs : List D) : (enumL xs).length = xs.length := by
  unfold enumL
  rw [pairUp_len, rangeL_len, Nat.min_self]
theorem rangeL_get {n i : Nat} (h : i < n) : (rangeL 0 n)[i]? = some (.int (i : Nat)) := by
  unfold rangeL
  simp [h]
def enumM (f : EM D) : EM (List D) := fun ρ ω => (f ρ ω).andThen fun d => optM (match items? d with
  | some xs => some (enumL xs)
  | none => none)
section
variable {B : Bc} {K : PySem.W.Frag} {X : Cx} {tg iter : Expr}
theorem wk_enum {R : (Addr → Prop) → Hp → Prop} {It : L2.It} {xs : List D} {vs : List V} {g : Gd} (hl : xs.length = vs.length) (w : ∃ G, Walk It vs.length G (YPair (fun i => some (.int (i : Nat))) (fun i => vs[i]?)) ∧ ∀ Z H, R Z H → G H) (hr : ∀ Z H, R Z H → RDs g.tk Z H xs vs) : Wk g R It (enumL xs) := by
  obtain ⟨G, w, hG⟩ := w
  refine wk_pair (G := G) (by rw [enumL_len, hl]; exact w) hG fun i Z H hi r => ?_
  rw [enumL_len] at hi
  have h1 : xs[i]? = some xs[i] := List.getElem?_eq_getElem hi
  obtain ⟨v, h2, h3⟩ := (hr Z H r).get h1
  exact ⟨.int (i : Nat), xs[i], .int (i : Nat), v, pairUp_get (rangeL_get hi) h1, rfl, h2, .int _, h3⟩
theorem w_enum {f : EM D} (h : PI X tg iter (iEnumA K (RdE B f))) : PI X tg iter (RdI B (enumM f)) := PI.imp h fun σ H R ⟨Z, ρ, ω, j, q⟩ => by
  refine ⟨Z, ρ, ω, j, ?_⟩
  unfold enumM at q
  cases ea : f ρ ω with
  | bad => simp only [ea, Out.andThen] at q
  | exc c ω' => simp only [ea, Out.andThen] at q; exact q
  | ok d ρ1 ω1 =>
    simp only [ea, Out.andThen, optM] at q
    intro Z1 v H1 e1 z1 j1 r1
    cases d with
    | lst ds =>
      simp only [items?] at q
      cases r1 with
      | obj zp ro =>
        cases ro with
        | lst hp rs => exact ⟨_, rfl, _, rfl, .inl ⟨⟨_, SqL.of hp⟩, q Z1 H1 _ e1 z1 j1 (wk_enum rs.length ⟨_, walk_enum, fun Z H r => SqL.of (r.keep _ _ (.inl zp) hp)⟩ fun Z H r => rs.kp r)⟩⟩
    | tup ds =>
      simp only [items?] at q
      obtain ⟨p, vs, rfl, hp, rs⟩ := BR.tup (g := B.g) (.inl r1)
      exact ⟨_, rfl, _, rfl, .inr ⟨⟨_, SqT.of hp⟩, q Z1 H1 _ e1 z1 j1 (wk_enum rs.length ⟨_, walk_enumT, fun Z H r => SqT.of (r.keep _ _ (.inr ⟨_, hp⟩) hp)⟩ fun Z H r => rs.kp r)⟩⟩
    | ptup ds =>
      simp only [items?] at q
      obtain ⟨p, vs, o, rfl, zp, hp, nd, rs⟩ := BR.ptup (g := B.g) (.inl r1)
      exact ⟨_, rfl, _, rfl, .inr ⟨⟨_, SqT.fz hp⟩, q Z1 H1 _ e1 z1 j1 (wk_enum rs.length ⟨_, walk_enumT, fun Z H r => SqT.fz (r.keep _ _ (.inl zp) hp)⟩ fun Z H r => rs.kp r)⟩⟩
    | _ => simp only [items?] at q
end
end L2.Fl

namespace L2.Fl
open PySem PySem.Spec PyProof.Rows

/-! ### sorted -/
def insD (le : D → D → Bool) (a : D) : List D → List D
  | [] => [a]
  | b :: t => if le a b then a :: b :: t else b :: insD le a t
def isortD (le : D → D → Bool) : List D → List D
  | [] => []
  | a :: l => insD le a (isortD le l)
theorem insD_at {le : D → D → Bool} {a : D} : ∀ {l₁ l₂ : List D}, (∀ b ∈ l₁, le a b = false) → (∀ b, l₂.head? = some b → le a b = true) → insD le a (l₁ ++ l₂) = l₁ ++ a :: l₂
  | [], [], _, _ => rfl
  | [], b :: t, _, h => by
    show insD le a (b :: t) = _
    unfold insD
    rw [if_pos (h b rfl)]; rfl
  | c :: l₁, l₂, h, h2 => by
    show insD le a (c :: (l₁ ++ l₂)) = _
    unfold insD
    rw [if_neg (by rw [h c List.mem_cons_self]; decide), insD_at (fun b hb => h b (List.mem_cons_of_mem _ hb)) h2]; rfl
theorem isortD_eq {le : D → D → Bool} (tr : ∀ a b c, le a b = true → le b c = true → le a c = true) (to : ∀ a b, (le a b || le b a) = true) : ∀ l : List D, isortD le l = l.mergeSort le
  | [] => by simp [isortD]
  | a :: l => by
    obtain ⟨l₁, l₂, e1, e2, h⟩ := List.mergeSort_cons tr to a l
    rw [e1]
    show insD le a (isortD le l) = _
    rw [isortD_eq tr to l, e2]
    refine insD_at (fun b hb => by simpa using h b hb) fun b hb => ?_
    have pw := List.pairwise_mergeSort tr to (a :: l)
    rw [e1] at pw
    have := (List.pairwise_append.mp pw).2.1
    cases l₂ with
    | nil => cases hb
    | cons c t =>
      cases hb
      exact (List.pairwise_cons.mp this).1 b List.mem_cons_self
def leS (rev : Bool) (a b : D) : Bool := cond rev (!ltd a b) (!ltd b a)
theorem isort_data (rev : Bool) (l : List D) : isortD (leS rev) l = l.mergeSort (PySem.W.dataLe rev pD) := by
  have T := PySem.W.sortLe_total (PyProof.Rows.listOrd PyProof.Rows.itemOrd) rev fun b : D => PySem.W.keyToks (pD b)
  exact isortD_eq (le := PySem.W.dataLe rev pD) T.trans (fun a b => by
    rcases T.total a b with h | h
    · exact (Bool.or_eq_true _ _).mpr (.inl h)
    · exact (Bool.or_eq_true _ _).mpr (.inr h)) l
/-- what sorted takes: alike, and all or none of them tuples that are not empty -/
def sortable (xs : List D) : Bool := (xs.all fun x => match x with
  | .tup (_ :: _) => true
  | _ => false) || xs.all fun x => match x with
  | .tup _ => false
  | .non => false
  | .tok _ => false
  | _ => true
def sortD (rev : Bool) (a : D) : Option (List D) := match items? a with
  | some xs => if okDs xs 8 && alikeD xs && sortable xs && decide (xs.length ≤ LIM) then some (isortD (leS rev) xs) else none
  | none => none
section
variable {X : Cx} {pins : List (Addr × Obj)} {σ : L2.St} {H : Hp} {s : Shared}
/-- sorted, of a list or a tuple of alike data -/
def rSortA (K : PySem.W.Frag) (rev : Bool) : List V → Hp → VK → Prop := fun vs H Q => ∃ (a : Addr) (ys : List V) (xs : List D), vs = [.ref a] ∧ (SqL K H a ys ∨ SqT K H a ys) ∧ DpAll K H ys (xs.map pD) ∧ PySem.W.AllAlike (xs.map pD) ∧ PySem.W.Sortable (xs.map pD) ∧ (∀ x ∈ xs, (pD x).depth ≤ 8) ∧ xs.length ≤ sizeLine ∧
  ∀ (p : Addr) (zs : List V), H p = none → zs.length = xs.length → (∀ (i : Nat) (v : V) (d : D), zs[i]? = some v → (isortD (leS rev) xs)[i]? = some d → ∃ j : Nat, ys[j]? = some v ∧ xs[j]? = some d) → Q (.ref p) (upd H p (.lst zs))
theorem eachOf {ys : List V} {xs : List D} : ∀ {out : List Value} {ds : List D}, PySem.W.EachIs (fun v d => ∃ (i : Nat) (x : V), ys[i]? = some x ∧ xs[i]? = some d ∧ RelV x v) out ds → ∃ zs, Vals zs out ∧ zs.length = ds.length ∧ ∀ (i : Nat) (v : V) (d : D), zs[i]? = some v → ds[i]? = some d → ∃ j : Nat, ys[j]? = some v ∧ xs[j]? = some d
  | _, _, .nil => ⟨[], .nil, rfl, fun i v d e => by simp at e⟩
  | _, _, .cons a b => by
    obtain ⟨i, x, h1, h2, h3⟩ := a
    obtain ⟨zs, r, l, h⟩ := eachOf b
    refine ⟨x :: zs, .cons h3 r, by simp [l], fun k v d e1 e2 => ?_⟩
    cases k with
    | zero =>
      simp at e1 e2
      subst e1 e2
      exact ⟨i, h1, h2⟩
    | succ k => exact h k v d (by simpa using e1) (by simpa using e2)
theorem eachTo {K : PySem.W.Frag} : ∀ {ys : List V} {xs : List D} {its : List Value} (n : Nat) {ys' : List V} {xs' : List D}, Vals ys its → ys.length = xs.length → (∀ (i : Nat), ys[i]? = ys'[i + n]? ∧ xs[i]? = xs'[i + n]?) → PySem.W.EachIs (fun v d => ∃ (i : Nat) (x : V), ys'[i]? = some x ∧ xs'[i]? = some d ∧ RelV x v) its xs
  | [], [], _, _, _, _, .nil, _, _ => .nil
  | y :: ys, x :: xs, _, n, ys', xs', .cons r rr, l, h => .cons ⟨n, y, by have := (h 0).1; simpa using this.symm, by have := (h 0).2; simpa using this.symm, r⟩ (eachTo (K := K) (n + 1) rr (by simpa using l) fun i => by
    have := h (i + 1)
    simp only [List.getElem?_cons_succ] at this
    rw [show i + (n + 1) = i + 1 + n by omega]; exact this)
theorem eachReads {h : Heap} {its : List Value} : ∀ {ds : List PyData} {as : List Addr} {xs : List D}, ReadsAll h its ds as → ds = xs.map pD → PySem.W.EachIs (fun v b => ∃ as, Reads h v (pD b) as) its xs := fun {ds as xs} r e => by
  subst e
  exact PySem.W.readsAll_each (enc := pD) r
theorem sorted_at {rev : Bool} {a : Addr} {ys : List V} {its : List Value} {xs : List D} {T : String} {o : Obj} {n : Nat} {kw : List (Str × Value)} {E : Value → Shared → Prop} {Q : Value → Shared → Prop} (hT : T = "list" ∨ T = "tuple") (ho : s.heap.get? a = some o) (hc : o.cls = .type T) (hd : o.data = .seq its.toArray n)
    (hkw : kw = [(Str.ofString "reverse", .bool rev)] ∨ (kw = [] ∧ rev = false)) (I : Inv X pins σ H s) (rv : Vals ys its) (hl : ys.length = xs.length) (hrd : ∃ as, ReadsAll s.heap its (xs.map pD) as) (ha : PySem.W.AllAlike (xs.map pD)) (hs : PySem.W.Sortable (xs.map pD)) (hdep : ∀ x ∈ xs, (pD x).depth ≤ 8) (hz : xs.length ≤ sizeLine) (hu : X.A.units + 65 < cLine)
    (h : ∀ (p : Addr) (zs : List V) (s' : Shared), H p = none → zs.length = xs.length → (∀ (i : Nat) (v : V) (d : D), zs[i]? = some v → (isortD (leS rev) xs)[i]? = some d → ∃ j : Nat, ys[j]? = some v ∧ xs[j]? = some d) → Inv X pins σ (upd H p (.lst zs)) s' → Q (.ref p) s') :
    wpAny (model X.prog X.w) X.A (call (.builtin "sorted") [.ref a] kw) Q E s := by
  obtain ⟨as, hrd⟩ := hrd
  have lits : its.length = xs.length := by rw [← rv.length]; exact hl
  refine PyProof.Rows.call_function_entry_kw PyProof.Rows.kind_sorted PyProof.Rows.plain_sorted PyProof.Rows.entry_sorted (by
    rcases hkw with e | ⟨e, _⟩ <;> subst e
    · exact PyProof.Rows.args_sorted_rev _ _
    · exact PyProof.Rows.args_sorted1 _) ?_
  unfold Builtin.«sorted»
  refine wpAny_bind (m := checkCount "sorted" 1 1 _) (wpAny_pure ?_)
  refine wpAny_bind (wpAny_collect_seq a hT ho hc hd (fun h' hk => ?_) (by simp [lits]; exact hz))
  simp only
  refine wpAny_bind (wpAny_newList ?_ (by rw [lits]; exact hz))
  have I1 : Inv X pins σ H { s with heap := h' } := I.kept (t' := s.toks) hk
  have hob : (h'.push { cls := .type "list", data := .seq its.toArray }).get? h'.objs.size = some (seqObj "list" its.toArray 0) := Heap.get?_push_size _ rfl
  have kp : ∀ b o, s.heap.get? b = some o → (h'.push { cls := .type "list", data := .seq its.toArray }).get? b = some o := fun b o e => Heap.get?_push_of_some _ (hk b o e)
  have fr : H h'.objs.size = none := I1.hok.fresh (Nat.le_refl _)
  have e1 : PySem.W.EachIs (fun v d => ∃ (i : Nat) (x : V), ys[i]? = some x ∧ xs[i]? = some d ∧ RelV x v) its xs := eachTo (K := X.K) 0 rv hl fun i => ⟨rfl, rfl⟩
  have e2 : PySem.W.EachIs (fun v b => ∃ as, Reads (h'.push { cls := .type "list", data := .seq its.toArray }) v (pD b) as ∧ h'.objs.size ∉ as) its xs := (eachReads hrd rfl).mono fun v b ⟨as, r⟩ => ⟨as, PyProof.Rows.Reads.keeps (fun b o e => kp b o e) r, fun m => by
    obtain ⟨o, ho⟩ := PyProof.On.reads_mem_get r _ m
    have := Heap.lt_size (hk _ _ ho)
    exact absurd this (Nat.lt_irrefl _)⟩
  have fin : ∀ (out : List Value), out.length = xs.length → PySem.W.EachIs (fun v d => ∃ (i : Nat) (x : V), ys[i]? = some x ∧ xs[i]? = some d ∧ RelV x v) out (xs.mergeSort (PySem.W.dataLe rev pD)) →
      Q (.ref h'.objs.size) { s with heap := sortedHeap (h'.push { cls := .type "list", data := .seq its.toArray }) h'.objs.size its (List.toArray out) } := fun out lo e => by
    rw [← isort_data] at e
    obtain ⟨zs, rz, lz, hz'⟩ := eachOf e
    have lz2 : zs.length = xs.length := by rw [rz.length]; exact lo
    obtain ⟨n', hat⟩ := PyProof.Rows.sortedHeap_at (out := out.toArray) hob
    refine h h'.objs.size zs _ fr lz2 hz' (I1.laid (t' := s.toks) (fun b u e => ?_) (Nat.le_refl _) ⟨by rw [lz2]; exact hz, out, n', rz, hat⟩)
    have hlt : b < h'.objs.size := Heap.lt_size e
    rw [PyProof.Rows.sortedHeap_old (Nat.ne_of_lt hlt) (by rw [Heap.size_push]; exact Nat.lt_succ_of_lt hlt)]
    exact Heap.get?_push_of_some _ e
  have dep : ∀ b, b ∈ xs → X.A.in1.units + 1 + (pD b).depth < cLine := fun b hb => by
    have := hdep b hb
    show X.A.units + 1 + 1 + _ < _
    omega
  rcases hkw with e | ⟨e, er⟩
  · subst e
    exact wpAny_bind (wpAny_holding (PySem.W.list_sort_rev_data hob e1 e2 ha hs hz dep fun out lo e => wpAny_pure ⟨_, rfl, fin out lo e⟩))
  · subst e er
    exact wpAny_bind (wpAny_holding (PySem.W.list_sort_data hob e1 e2 ha hs hz dep fun out lo e => wpAny_pure ⟨_, rfl, fin out lo e⟩))
theorem sorted_run {rev : Bool} {Q : VK} {vs : List V} {us : List Value} {kw : List (Str × Value)} (hu : X.A.units + 65 < cLine) (hkw : kw = [(Str.ofString "reverse", .bool rev)] ∨ (kw = [] ∧ rev = false)) (I : Inv X pins σ H s) (r : Vals vs us) (h : rSortA X.K rev vs H Q) : wpAny (model X.prog X.w) X.A (call (.builtin "sorted") us kw) (EP X pins σ Q) X.xe s := by
  obtain ⟨a, ys, xs, rfl, hs, hd, ha, ho, hdep, hz, q⟩ := h
  rw [Vals.ref1 r]
  have go : ∀ {its : List Value} {T : String} {o : Obj} {n : Nat}, Vals ys its → (T = "list" ∨ T = "tuple") → s.heap.get? a = some o → o.cls = .type T → o.data = .seq its.toArray n → wpAny (model X.prog X.w) X.A (call (.builtin "sorted") [.ref a] kw) (EP X pins σ Q) X.xe s := fun {its T o n} rv hT e1 e2 e3 => by
    obtain ⟨as, hr⟩ := readsAllDp I hd rv
    have hl : ys.length = xs.length := by
      have := PySem.W.readsAll_len (vs := its.toArray) (by simpa using hr)
      rw [List.length_map] at this
      rw [rv.length]; simpa using this
    exact sorted_at hT e1 e2 e3 hkw I rv hl ⟨as, hr⟩ ha ho hdep hz hu fun p zs s' hp lz hz' I' => ⟨.ref p, _, I', rfl, q p zs hp lz hz'⟩
  rcases hs with hs | hs
  · obtain ⟨its, rv, hl, _⟩ := I.list hs
    obtain ⟨o, e1, e2, n, e3⟩ := hl.isList
    exact go rv (.inl rfl) e1 e2 e3
  · obtain ⟨its, rv, hl, _⟩ := I.tuple hs
    obtain ⟨o, e1, e2, n, e3⟩ := hl
    exact go rv (.inr rfl) e1 e2 e3
theorem call_sortedA (hu : X.A.units + 65 < cLine) : CallR X (.builtin "sorted") (rSortA X.K false) := fun pins s σ H vs us Q I r h => sorted_run hu (.inr ⟨rfl, rfl⟩) I r h
def rSortRev (K : PySem.W.Frag) : List V → List V → Hp → VK → Prop := fun vs zs H Q => match zs with
  | [.bl true] => rSortA K true vs H Q
  | _ => False
theorem call_sortedRevA (hu : X.A.units + 65 < cLine) : CallRK X (.builtin "sorted") [Str.ofString "reverse"] (rSortRev X.K) := fun pins s σ H vs zs us ws Q I r rz h => by
  unfold rSortRev at h
  split at h
  · cases rz with
    | cons a b =>
      cases b
      obtain rfl := a
      exact sorted_run hu (.inl rfl) I r h
  · exact h.elim
end
theorem isort_mem {le : D → D → Bool} : ∀ {l : List D} {x : D}, x ∈ isortD le l ↔ x ∈ l := by
  have ins : ∀ {l : List D} {a x : D}, x ∈ insD le a l ↔ x = a ∨ x ∈ l := by
    intro l
    induction l with
    | nil => intro a x; simp [insD]
    | cons b t ih =>
      intro a x
      unfold insD
      split
      · simp
      · simp only [List.mem_cons, ih]
        exact ⟨fun h => by rcases h with h | h | h <;> simp [h], fun h => by rcases h with h | h | h <;> simp [h]⟩
  intro l
  induction l with
  | nil => intro x; simp [isortD]
  | cons a l ih => intro x; simp only [isortD, ins, ih, List.mem_cons]
theorem isort_len {le : D → D → Bool} : ∀ (l : List D), (isortD le l).length = l.length := by
  have ins : ∀ (a : D) (l : List D), (insD le a l).length = l.length + 1 := by
    intro a l
    induction l with
    | nil => rfl
    | cons b t ih => unfold insD; split <;> simp [ih]
  intro l
  induction l with
  | nil => rfl
  | cons a l ih => simp only [isortD, ins, ih, List.length_cons]
theorem pD_depth : ∀ (d : D) (n : Nat), okD d n = true → (pD d).depth ≤ n := fun d n h => (okD_canLay d n h).2
theorem RDs.of_get {tk : Nat → Option V} {Z : Addr → Prop} {H : Hp} : ∀ {ds : List D} {vs : List V}, ds.length = vs.length → (∀ (i : Nat) (v : V) (d : D), vs[i]? = some v → ds[i]? = some d → RD tk Z H d v) → RDs tk Z H ds vs
  | [], [], _, _ => .nil
  | d :: ds, v :: vs, l, h => .cons (h 0 v d rfl rfl) (RDs.of_get (by simpa using l) fun i v d e1 e2 => h (i + 1) v d (by simpa using e1) (by simpa using e2))
section
variable {g : Gd} {K : PySem.W.Frag}
theorem simF_sorted {rev : Bool} : SimF1 g (r1c (rSortA K rev)) (sortD rev) := fun Z H ω x a ds Q G ra h hq => by
  unfold sortD at h
  cases ei : items? a with
  | none => simp only [ei] at h; cases h
  | some xs =>
    simp only [ei] at h
    split at h
    · rename_i hc
      simp only [Bool.and_eq_true, decide_eq_true_eq] at hc
      obtain ⟨⟨⟨h1, h2⟩, h3⟩, h4⟩ := hc
      cases h
      obtain ⟨p, vs, rfl, hs, rs⟩ := items_br (K := K) ra ei
      have hdp : DpAll K H vs (xs.map pD) := by rw [← pDs_map]; exact rs.dp h1
      have hal := alikeD_all h1 h2
      rw [pDs_map] at hal
      refine ⟨p, vs, xs, rfl, hs, hdp, hal.1, ?_, fun x hx => pD_depth x 8 (okDs_mem h1 x hx), h4, fun q zs hq0 lz hz => hq q zs hq0 (RDs.of_get (by rw [isort_len, lz]) fun i v d e1 e2 => ?_)⟩
      · simp only [sortable, Bool.or_eq_true, List.all_eq_true] at h3
        rcases h3 with h3 | h3
        · refine .inl fun d hd => ?_
          obtain ⟨y, hy, rfl⟩ := List.mem_map.mp hd
          have := h3 y hy
          match y, this with
          | .tup (z :: zs), _ => exact ⟨pD z, pDs zs, rfl⟩
        · refine .inr fun d hd => ?_
          obtain ⟨y, hy, rfl⟩ := List.mem_map.mp hd
          have := h3 y hy
          have hn := okDs_mem h1 y hy
          match y, this with
          | .bl _, _ => exact ⟨by simp [pD], fun _ => by simp [pD]⟩
          | .int _, _ => exact ⟨by simp [pD], fun _ => by simp [pD]⟩
          | .str _, _ => exact ⟨by simp [pD], fun _ => by simp [pD]⟩
          | .lst _, _ => exact ⟨by simp [pD], fun _ => by simp [pD]⟩
          | .dct _, _ => simp [okD] at hn
          | .dctT _, _ => simp [okD] at hn
          | .dctF _, _ => simp [okD] at hn
          | .dctG _, _ => simp [okD] at hn
      · obtain ⟨j, h5, h6⟩ := hz i v d e1 e2
        obtain ⟨v', h7, h8⟩ := rs.get h6
        rw [h5] at h7; cases h7
        exact h8
    · cases h
end
section
variable {X : Cx} {B : Bc} {e : Expr} {p pos : Pos} {fa : EM D} {k : Nat}
theorem fSorted (hr : Room k X.A) (hb : Bn X.mg) (ha : PE X e (RdB B fa)) (hg : Gl X "sorted" := by rfl) (he : starEach [e] X.env = (false, eval e X.env) :: starEach [] X.env := by rfl) (hpl : (backTo pos (starEach [] X.env)).any (·.1) = false := by rfl) : PE X (.Call (.Name "sorted" p) [e] [] pos) (RdF B (opF1 (sortD false) fa)) :=
  f_op1 (simF_sorted (K := X.K)) (pe_callB (call_sortedA (room65 hr)) hg hb.sorted (by decide +kernel) (pa_cons ha pa_nil he) (he := he) (hpl := hpl))
theorem fSortedRev {kp tp : Pos} {jj : Nat} (hr : Room k X.A) (hb : Bn X.mg) (ha : PE X e (RdB B fa)) (hg : Gl X "sorted" := by rfl) (he1 : starEach [e] X.env = (false, eval e X.env) :: starEach [] X.env := by rfl)
    (he : backTo pos (starEach [e] X.env) = (false, eval e X.env) :: backTo pos (starEach [] X.env) := by rfl) (hpl : (backTo pos (starEach [e] X.env)).any (·.1) = false := by rfl)
    (hall : (backToKw pos (keywordEach [⟨some "reverse", .Constant (.bool true) jj tp, kp⟩] X.env)).all (·.1.isSome) = true := by rfl) (hnone : (backToKw pos (keywordEach [⟨some "reverse", .Constant (.bool true) jj tp, kp⟩] X.env)).any (·.1.isNone) = false := by rfl)
    (hks : (backToKw pos (keywordEach [⟨some "reverse", .Constant (.bool true) jj tp, kp⟩] X.env)).filterMap (·.1) = [Str.ofString "reverse"] := by rfl) :
    PE X (.Call (.Name "sorted" p) [e] [⟨some "reverse", .Constant (.bool true) jj tp, kp⟩] pos) (RdF B (opF1 (sortD true) fa)) :=
  f_op1 (simF_sorted (K := X.K)) (PE.imp (pe_callBK (call_sortedRevA (room65 hr)) hg hb.sorted (by decide +kernel) (pa_cons ha pa_nil he1) (pk_cons pe_bl pk_nil) (he := he) (hpl := hpl) (hall := hall) (hnone := hnone) (hks := hks)) fun σ H Q h => h)
end
end L2.Fl

namespace PySem
open Sem (wp)
open AutoSeq1 (wpAny_loadPart')
theorem flMul1 (l : Addr) (items : Array Value) (n : Nat) (dd : Option Addr) (sl : Array (Option Value)) (u : Tok) :
    Meets (Builtin.«tuple.__mul__» ⟨[.ref l, .int 1 u], []⟩) (fun _ R s => s.heap.get? l = some { cls := .type "tuple", dict := dd, data := .seq items n, slots := sl } ∧ R (.ok (.ret (Value.ref l))) s) :=
  .of_wp fun prog w A R s ⟨hl, h⟩ => by
    obtain ⟨hp, g, d, tk, os⟩ := s
    have f1 := AutoSeq1.idx_int
    have c1 : (items.isEmpty || (1 : Int) == 1) = true := by simp
    wp_walk using wpAny_loadPart' hl
    repeat (first
      | (refine wpAny_ite_true (decide_eq_true c1) ?_; wp_walk using wpAny_loadPart' hl)
      | (refine wpAny_ite_false (by decide) ?_; wp_walk using wpAny_loadPart' hl))
    exact ⟨_, rfl, h⟩
theorem flMul0 (l : Addr) (items : Array Value) (n : Nat) (dd : Option Addr) (sl : Array (Option Value)) (u : Tok) (hi : items.isEmpty = false) :
    Meets (Builtin.«tuple.__mul__» ⟨[.ref l, .int 0 u], []⟩) (fun _ R s => s.heap.get? l = some { cls := .type "tuple", dict := dd, data := .seq items n, slots := sl } ∧ R (.ok (.ret (Value.ref s.heap.objs.size))) { s with heap := s.heap.push { cls := Value.type "tuple", data := Data.seq #[] } }) :=
  .of_wp fun prog w A R s ⟨hl, h⟩ => by
    obtain ⟨hp, g, d, tk, os⟩ := s
    have f1 := AutoSeq1.idx_int
    have c1 : (items.isEmpty || (0 : Int) == 1) = false := by simp [hi]
    have c2 : (decide ((0 : Int) ≤ 0) || items.isEmpty) = true := by simp
    wp_walk using wpAny_loadPart' hl
    repeat (first
      | (refine wpAny_ite_false (decide_eq_false (by rw [c1]; exact Bool.false_ne_true)) ?_; wp_walk using wpAny_loadPart' hl)
      | (refine wpAny_ite_true (decide_eq_true c2) ?_; wp_walk using wpAny_loadPart' hl)
      | (refine wpAny_ite_false (by decide) ?_; wp_walk using wpAny_loadPart' hl))
    exact ⟨_, rfl, h⟩
/-! list(reversed(list)) -/
section
variable {prog : Program} {w : World} {A : Around} {s : Shared} {R : Result → Shared → Prop} {I : Addr} {fp wr : List Addr} {G : Array GenState → Array GenState → Prop} {n : Nat} {P : Nat → Value → Prop} {St : Nat → Shared → Prop}
theorem flExtendRev (W : WalksS prog w A.in1 I fp wr G n P St) (hT : ∀ i s, St i s → s.TypeIs (.ref I) "list_reverseiterator") (S : Addr) (res : Value) (c₀ : Nat) (hst : St 0 s) (hSf : S ∉ fp) (hI : I ∈ fp) (hS : s.heap.get? S = some { cls := .type "list", data := .seq #[] c₀ })
    (hn : n ≤ sizeLine)
    (hR : ∀ s' acc' c', Moved (S :: wr) G s s' → s'.heap.get? S = some { cls := .type "list", dict := none, data := .seq acc' c', slots := #[] } → ItemsOf P acc' n → R (.ok (.ret res)) s') :
    wpAny (model prog w) A.in1 (Builtin.List.listExtendWith (.ref S) (.ref I) res) (fun fin s' => match fin with | .done f => R (.ok f) s' | .again c' => c'.quiet = true ∧ codeAny (model prog w) A c' R s') (fun e s' => R (.error e) s') s := by
  have hSI : S ≠ I := fun e => hSf (e ▸ hI)
  have h1 : Builtin.List.listSameRef (.ref S) (.ref I) = false := by simp [Builtin.List.listSameRef, hSI]
  have h2 : (Value.type "list_reverseiterator" == Value.type "list") = false := by decide
  have h3 : (Value.type "list_reverseiterator" == Value.type "tuple") = false := by decide
  unfold Builtin.List.listExtendWith
  refine wpAny_bind (wpAny_typeOf (hT 0 _ hst) ?_)
  simp only [h1, h2, h3, Bool.or_false, Bool.false_eq_true, if_false]
  refine wpAny_bind (W.self 0 _ _ _ hst (wpAny_bind (wpAny_holding ?_)))
  unfold Builtin.List.listLengthHint
  refine wpAny_bind (wpAny_specialOf (hT 0 _ hst) RT.nolen_lri ?_)
  show wpAny _ A.in1 (specialOf (Value.ref I) (Str.ofString "__length_hint__") >>= _) _ _ _
  refine wpAny_bind (wpAny_specialOf (hT 0 _ hst) RT.hint_lri ?_)
  generalize hid : ("list_reverseiterator.__length_hint__" : String) = id0
  wp_delta
  rw [show splitId id0 = some ("list_reverseiterator", "__length_hint__") from by subst hid; decide +kernel]
  subst hid
  refine wpAny_bind (wpAny_isInstance (b := true) (hT 0 _ hst) (by rw [isSubtype_type]; kernel_rfl) (wpAny_pure ?_))
  rw [if_neg (by decide)]
  exact wpAny_pure ⟨plainId_quiet F.plain_extend_loop _, codeAny_extend_loopS W hn _ hSf _ n 0 _ _ _ rfl (Nat.zero_le _) hst hS (ItemsOf.nil P) fun s' acc' c' hm hS' ha => hR s' acc' c' hm hS' ha⟩
end
theorem flListRev {prog : Program} {w : World} {A : Around} {E : Value → Shared → Prop} {s : Shared} {it l : Addr} {items : Array Value} {Q : Value → Shared → Prop} (hh : A.handled = none) (hit : s.heap.IsRevIter it l ((items.size : Int) - 1)) (hl : s.heap.IsList l items) (hne : l ≠ it) (hn : items.size ≤ sizeLine)
    (hQ : ∀ s' acc' c', Moved [s.heap.objs.size, it] (fun a b => b = a) { s with heap := s.heap.push { cls := .type "list", data := .seq #[] } } s' → s'.heap.get? s.heap.objs.size = some { cls := .type "list", dict := none, data := .seq acc' c', slots := #[] } →
      ItemsOf (fun i v => items[items.size - 1 - i]? = some v) acc' items.size → Q (.ref s.heap.objs.size) s') : wpAny (model prog w) A (call (.type "list") [.ref it]) Q E s := by
  have W := (Walks.listRev (prog := prog) (w := w) (A := A.in1.in1) hh it l hne items).toS
  obtain ⟨oi, hoi, _⟩ := id hit
  obtain ⟨ol, hol, _⟩ := id hl
  have hSi : s.heap.objs.size ≠ it := Nat.ne_of_gt (Heap.lt_size hoi)
  have hSl : s.heap.objs.size ≠ l := Nat.ne_of_gt (Heap.lt_size hol)
  have hSf : s.heap.objs.size ∉ [it, l] := by simp only [List.mem_cons, List.not_mem_nil, or_false, not_or]; exact ⟨hSi, hSl⟩
  refine callType_codes (Q₁ := fun obj s₁ => obj = .ref s.heap.objs.size ∧ s₁ = { s with heap := s.heap.push { cls := .type "list", data := .seq #[] } }) F.called_list (F.typeCall_list_1 _) F.entry_list_init (code_list_new _ ⟨rfl, rfl⟩) fun obj s₁ h₁ => ?_
  obtain ⟨rfl, rfl⟩ := h₁
  have hS : (s.heap.push { cls := .type "list", data := .seq #[] }).get? s.heap.objs.size = some { cls := .type "list", data := .seq #[] } := Heap.get?_push_size _ rfl
  have hit1 : (s.heap.push { cls := .type "list", data := .seq #[] }).IsRevIter it l ((items.size : Int) - 1) := hit.at fun o e => Heap.get?_push_of_some _ e
  have hl1 : (s.heap.push { cls := .type "list", data := .seq #[] }).IsList l items := hl.push _
  refine ⟨⟨_, hS, rfl⟩, F.args_list_init_2 _ _, ?_⟩
  show wpAny _ A.in1.in1 (do let old ← Builtin.List.listItems (.ref s.heap.objs.size); Builtin.List.listUpdate (.ref s.heap.objs.size) (fun _ => #[]); letGo old.toList.reverse; Builtin.List.listExtendWith (.ref s.heap.objs.size) (.ref it) .none) _ _ _
  refine wpAny_bind ?_
  unfold Builtin.List.listItems
  refine wpAny_bind (wpAny_seqItems hS rfl (wpAny_pure ?_))
  show wpAny _ A.in1.in1 (updateSeq s.heap.objs.size (fun _ => #[]) >>= fun _ => letGo (#[] : Array Value).toList.reverse >>= fun _ => Builtin.List.listExtendWith (.ref s.heap.objs.size) (.ref it) .none) _ _ _
  refine wpAny_bind (wpAny_updateSeq hS rfl (wpAny_bind (wpAny_letGo ?_)))
  have hS₂ := Heap.get?_update_self (Obj.mapSeq (fun _ => (#[] : Array Value))) hS rfl
  have oth : ∀ b o, b ≠ s.heap.objs.size → (s.heap.push { cls := .type "list", data := .seq #[] }).get? b = some o → ((s.heap.push { cls := .type "list", data := .seq #[] }).update s.heap.objs.size (Obj.mapSeq (fun _ => (#[] : Array Value)))).get? b = some o := fun b o hb e => (Heap.get?_update_other _ _ (Ne.symm hb)).trans e
  have e0 : ((items.size : Nat) : Int) - 1 - ((0 : Nat) : Int) = (items.size : Int) - 1 := by omega
  refine flExtendRev W (fun i s₂ st => Heap.IsRevIter.typeIs st.2.1) _ .none _ ⟨Nat.zero_le _, by rw [e0]; exact hit1.at fun o e => oth it o (Ne.symm hSi) e, hl1.at fun o e => oth l o (Ne.symm hSl) e⟩ hSf (by simp) hS₂ hn fun s' acc' c' hm hS' ha => ?_
  have m1 := Moved.refl (s := { s with heap := s.heap.push { cls := .type "list", data := .seq #[] } }) (wr := [s.heap.objs.size, it]) (G := fun a b => b = a) W.grefl
  have m2 := m1.then_heap (Nat.le_refl _) fun b o hb e => oth b o (fun h => hb (by rw [h]; exact List.mem_cons_self (a := s.heap.objs.size) (l := [it]))) e
  exact ⟨rfl, hQ s' acc' c' (Moved.trans W.gtrans m2 hm) hS' ha⟩
end PySem
namespace L2.Fl
open PySem PySem.Spec PyProof.Rows

/-! ### tuple * int -/
section
variable {X : Cx}
theorem op_mulT1 : OpR X (binaryOp .Mult) (fun x y H Q => ∃ l xs, x = .ref l ∧ y = .int 1 ∧ SqT X.K H l xs ∧ Q (.ref l) H) := by
  intro pins s σ H x y v u Q I rx ry ⟨l, xs, e1, e2, hT, q⟩
  subst e1 e2
  cases rx
  obtain ⟨t, rfl⟩ := ry
  obtain ⟨its, r, ⟨⟨cls, dd, data, sl⟩, ho, hc, n, hd⟩, hs⟩ := I.tuple hT
  simp only at hc hd
  subst hc hd
  exact wpAny_binaryOp_repeat_ref (T := "tuple") (U := "int") (by decide) ⟨_, ho, rfl⟩ (fun s' => typeIs_int s' 1 t) L2.noFill_tuple_mul F.fills_int_mul F.slot_int_rmul L2.repeat_tuple F.slot_int_index.lookup
    (call_meets F.slot_int_rmul (typeIs_int s 1 t) F.entry_int_rmul (F.args_int_rmul_2 _ _) (L2.int_rmul_tuple 1 t l its.toArray n dd sl)
      ⟨ho, rfl, ⟨_, ho, rfl⟩, call_meets F.slot_tuple_mul ⟨_, ho, rfl⟩ F.entry_tuple_mul (F.args_tuple_mul_2 _ _) (flMul1 l its.toArray n dd sl t) ⟨ho, .ref l, H, I, rfl, q⟩⟩)
theorem op_mulT0 : OpR X (binaryOp .Mult) (fun x y H Q => ∃ l xs, x = .ref l ∧ y = .int 0 ∧ SqT X.K H l xs ∧ xs ≠ [] ∧ ∀ p, H p = none → Q (.ref p) (upd H p (.tup []))) := by
  intro pins s σ H x y v u Q I rx ry ⟨l, xs, e1, e2, hT, hne, q⟩
  subst e1 e2
  cases rx
  obtain ⟨t, rfl⟩ := ry
  obtain ⟨its, r, ⟨⟨cls, dd, data, sl⟩, ho, hc, n, hd⟩, hs⟩ := I.tuple hT
  simp only at hc hd
  subst hc hd
  have hi : its.toArray.isEmpty = false := by
    cases its with
    | nil => cases r; exact absurd rfl hne
    | cons a b => rfl
  exact wpAny_binaryOp_repeat_ref (T := "tuple") (U := "int") (by decide) ⟨_, ho, rfl⟩ (fun s' => typeIs_int s' 0 t) L2.noFill_tuple_mul F.fills_int_mul F.slot_int_rmul L2.repeat_tuple F.slot_int_index.lookup
    (call_meets F.slot_int_rmul (typeIs_int s 0 t) F.entry_int_rmul (F.args_int_rmul_2 _ _) (L2.int_rmul_tuple 0 t l its.toArray n dd sl)
      ⟨ho, rfl, ⟨_, ho, rfl⟩, call_meets F.slot_tuple_mul ⟨_, ho, rfl⟩ F.entry_tuple_mul (F.args_tuple_mul_2 _ _) (flMul0 l its.toArray n dd sl t hi)
        ⟨ho, .ref s.heap.objs.size, _, I.laid (t' := s.toks) (o := .tup []) (fun b ob z => Heap.get?_push_of_some _ z) (Nat.le_refl _) ⟨Nat.zero_le _, [], .nil, IsTup.new _ _⟩, rfl, q _ (I.hok.fresh (Nat.le_refl _))⟩⟩)
end
def rMulT (K : PySem.W.Frag) : R2 := fun x y H Q => (∃ l xs, x = .ref l ∧ y = .int 1 ∧ SqT K H l xs ∧ Q (.ref l) H) ∨ ((∃ l xs, x = .ref l ∧ y = .int 0 ∧ SqT K H l xs ∧ xs ≠ [] ∧ ∀ p, H p = none → Q (.ref p) (upd H p (.tup []))) ∨ rRepT K x y H Q)
theorem op_mulTA {X : Cx} : OpR X (binaryOp .Mult) (rMulT X.K) := op_mulT1.or (op_mulT0.or op_repT)
def mulTD (a b : D) : Option D := match a, b with
  | .tup (x :: xs), .int (.ofNat k) => if k ≤ 1000 && decide ((x :: xs).length ≤ 1000) then some (.tup (List.replicate k (x :: xs)).flatten) else none
  | _, _ => none
theorem sim_mulT {g : Gd} {K : PySem.W.Frag} : Sim2 g (rMulT K) mulTD := fun Z H ω x y a b d Q G ra rb h hq => by
  unfold mulTD at h
  split at h
  · rename_i z zs k
    split at h
    · rename_i hk
      simp only [Bool.and_eq_true, decide_eq_true_eq] at hk
      cases h
      obtain ⟨p, vs, rfl, hp, rs⟩ := ra.tup
      have ey := rb.int
      subst ey
      have ne : vs ≠ [] := fun e => by subst e; cases rs
      match k, hk with
      | 0, hk => exact .inr (.inl ⟨p, vs, rfl, rfl, SqT.of hp, ne, fun q hq0 => hq (fun r => Z r ∨ r = q) _ _ (grow_new hq0 fix_tup) (rd_newT (g := g) hq0 .nil)⟩)
      | 1, hk => exact .inl ⟨p, vs, rfl, rfl, SqT.of hp, hq Z _ H .refl (by simpa using RD.tup hp rs)⟩
      | k + 2, hk =>
        refine .inr (.inr ⟨p, ((k + 2 : Nat) : Int), vs, rfl, rfl, SqT.of hp, ne, by omega, by omega, by rw [← rs.length]; exact hk.2, fun q hq0 => hq (fun r => Z r ∨ r = q) _ _ (grow_new hq0 fix_tup) (rd_newT (g := g) hq0 ?_)⟩)
        exact RDs.rep rs (k + 2)
    · cases h
  · cases h
/-! ### tuple(reversed(list)) -/
def revTD (a : D) : Option D := match a with
  | .lst xs => some (.tup xs.reverse)
  | _ => none
/-! ### order of alike data -/
def rLtA (K : PySem.W.Frag) : R2 := fun x y H Q => ∃ d e, Dp K H x d ∧ Dp K H y e ∧ PySem.W.alike d e = true ∧ d ≠ .none ∧ d.depth ≤ 8 ∧ Q (.bl (PySem.W.dataLt d e)) H
theorem op_ltA {X : Cx} (hu : X.A.units + 65 < cLine) : OpR X (compareOp .Lt) (rLtA X.K) := by
  intro pins s σ H x y v u Q I rx ry ⟨d, e, hd, he, ha, hn, hdp, q⟩
  obtain ⟨as, h1⟩ := Dp.reads I _ _ _ hd rx
  obtain ⟨bs, h2⟩ := Dp.reads I _ _ _ he ry
  have z : wpAny (model X.prog X.w) X.A (compareOp .Lt v u) (EP X pins σ Q) X.xe s := PySem.W.rcLt_alike d e X.A s v u as bs h1 h2 ha hn (by omega) X.prog X.w X.xe (EP X pins σ Q) ⟨.bl _, H, I, rfl, q⟩
  exact z
def notNon : D → Bool
  | .non => false
  | .tok _ => false
  | _ => true
def ltX (a b : D) : Option D := if okD a 8 && okD b 8 && PySem.W.alike (pD a) (pD b) && notNon a then some (.bl (ltd a b)) else none
theorem sim_ltA {g : Gd} {K : PySem.W.Frag} : Sim2 g (rLtA K) ltX := fun Z H ω x y a b d Q G ra rb h hq => by
  unfold ltX at h
  split at h
  · rename_i hc
    simp only [Bool.and_eq_true] at hc
    cases h
    refine ⟨pD a, pD b, ra.dp hc.1.1.1, rb.dp hc.1.1.2, hc.1.2, ?_, (okD_canLay a 8 hc.1.1.1).2, hq Z _ H .refl (.bl _)⟩
    have h1 := hc.2
    have h2 := hc.1.1.1
    cases a <;> simp_all [pD, notNon, okD]
  · cases h
/-! ### x = xs.pop() by any target -/
def popTS (t : TM) (i : Nat) : SM := fun ρ ω => match ρ[i]? with
  | some (.own (.lst ds)) => (match ds.getLast? with
    | some d => (match t d (ρ.set i (.own (.lst ds.dropLast))) with
      | some ρ' => .nx ρ' ω
      | none => .bad)
    | none => .bad)
  | _ => .bad
section
variable {X : Cx} {B : Bc} {st : Stmt} {e a b : Expr} {p p2 pos pos2 : Pos} {fa fb : EM D} {k : Nat}
theorem s_popT {t : TM} {sl : List Nat} {i : Nat} (h : PS X st (tAsg (tBM0 X.K "list" rPop (tVar i)) (RdG B t sl))) : PS X st (RdS B (popTS t i)) := PS.imp h fun D σ H ⟨Z, ρ, ω, j, q⟩ => by
  unfold popTS at q
  split at q
  · rename_i ds ei
    split at q
    · rename_i d ed
      obtain ⟨pp, vs, h1, h2, h3, h4⟩ := j.lstAt ei
      obtain ⟨v, g1, g2⟩ := h3.get (last_at ed)
      refine ⟨.ref pp, h1, .inl ⟨rfl, _, SqL.of h2⟩, pp, vs, v, rfl, rfl, h2, by rw [← h3.length]; exact g1, ?_⟩
      have j1 := j.mut (d' := .lst ds.dropLast) (o := .lst vs.dropLast) ei h1 (.lst upd_same (h3.dropLast.upd h4)) fix_lst
      refine ⟨Z, _, ω, d, j1, g2.upd h4, ?_⟩
      split at q
      · rename_i ρ' et
        first
          | (rw [et]; exact fun σ' _ _ j' => q Z σ' _ (kp_upd h4) j')
          | exact fun σ' _ _ j' => q Z σ' _ (kp_upd h4) j'
      · exact q.elim
    · exact q.elim
  · exact q.elim
theorem eTupRev (hc : X.calm = true) (hb : Bn X.mg) (ha : PE X e (RdB B fa)) (hg : Gl X "tuple" := by rfl) (hg2 : Gl X "reversed" := by rfl) (hs : starEach [e] X.env = (false, eval e X.env) :: starEach [] X.env := by rfl)
    (hs2 : starEach [.Call (.Name "reversed" p2) [e] [] pos2] X.env = (false, eval (.Call (.Name "reversed" p2) [e] [] pos2) X.env) :: starEach [] X.env := by rfl) :
    PE X (.Call (.Name "tuple" p) [.Call (.Name "reversed" p2) [e] [] pos2] [] pos) (RdE B (op1 revTD fa)) :=
  m_op1 (r := fun v H1 Q => ∃ (a : Addr) (xs : List V), v = .ref a ∧ SqL X.K H1 a xs ∧ ∀ q, H1 q = none → Q (.ref q) (upd H1 q (.tup xs.reverse))) (fun Z H ω x a d Q G ra h hq => by
    cases a with
    | lst xs =>
      cases h
      obtain ⟨p, vs, rfl, hp, rs⟩ := ra.lst
      exact ⟨p, vs, rfl, SqL.of hp, fun q h0 => hq (fun r => Z r ∨ r = q) _ _ (grow_new h0 fix_tup) (rd_newT (g := B.g) h0 rs.reverse)⟩
    | _ => cases h) (fun ta ha => RT.pe_tupRev hc hg hb.tuple hg2 hb.reversed ha hs hs2) ha
/-- list(reversed(e)), e a list -/
theorem pe_listRev {te : TE} (hc : X.calm = true) (hg : Gl X "list") (hm : X.mg "list" = none) (hg2 : Gl X "reversed") (hm2 : X.mg "reversed" = none) (he : PE X e te)
    (hs : starEach [e] X.env = (false, eval e X.env) :: starEach [] X.env := by rfl) (hs2 : starEach [.Call (.Name "reversed" p2) [e] [] pos2] X.env = (false, eval (.Call (.Name "reversed" p2) [e] [] pos2) X.env) :: starEach [] X.env := by rfl) :
    PE X (.Call (.Name "list" p) [.Call (.Name "reversed" p2) [e] [] pos2] [] pos) (fun σ H Q => te σ H fun v H1 => ∃ (a : Addr) (xs : List V), v = .ref a ∧ SqL X.K H1 a xs ∧ ∀ q, H1 q = none → Q (.ref q) (upd H1 q (.lst xs.reverse))) := by
  refine ⟨fun pins s σ H Q I h => ?_⟩
  refine Call_ (ld_blt I hg hm PyProof.Rows.boot_list (PyProof.Rows.callWith_type1 (args_cons (Call_ (ld_blt I hg2 hm2 PyProof.Rows.boot_reversed (PyProof.Rows.callWith_type1 (args_cons (thn (he.run pins s σ H _ I h) fun u s1 ⟨v, H1, I1, r1, q1⟩ => args_nil ?_) hs) hs rfl))) hs2) hs2 rfl))
  obtain ⟨a, xs, ev, hq, q⟩ := q1
  subst ev
  obtain rfl : u = Value.ref a := r1
  obtain ⟨its, rv, p', hz⟩ := I1.list hq
  refine call_reversed_list p'.isList (args_nil ?_)
  have I2 : Inv X pins σ H1 { s1 with heap := s1.heap.push (revObj a ((its.toArray.size : Int) - 1)) } := I1.kept (t' := s1.toks) fun b o e => Heap.get?_push_of_some _ e
  obtain ⟨f0, f1, f2, f3, f4, f5⟩ := I1.fpOk (H' := H1) (b := s1.heap.objs.size) (Nat.le_refl _) (I1.hok.fresh (Nat.le_refl _))
  have hl := p'.isList
  obtain ⟨ol, hol, _⟩ := id hl
  have hne : a ≠ s1.heap.objs.size := Nat.ne_of_lt (Heap.lt_size hol)
  have hn : its.toArray.size ≤ sizeLine := by rw [List.size_toArray, ← rv.length]; exact hz
  have hz1 : (s1.heap.push (revObj a ((its.toArray.size : Int) - 1))).objs.size = s1.heap.objs.size + 1 := Heap.size_push ..
  refine flListRev (s := { s1 with heap := s1.heap.push (revObj a ((its.toArray.size : Int) - 1)) }) (I1.ok.hd hc) ⟨_, Heap.get?_push_size _ rfl, rfl, rfl⟩ (hl.push _) hne hn fun s' acc c' hm' hS' ha => ?_
  rw [Moved.eq_with hm']
  have hi := RT.vals_rev rv ha
  have hS2 : s'.heap.get? (s1.heap.push (revObj a ((its.toArray.size : Int) - 1))).objs.size = some { cls := .type "list", data := .seq acc.toList.toArray c' } := by rw [Array.toArray_toList]; exact hS'
  have I3 : Inv X pins σ (upd H1 (s1.heap.push (revObj a ((its.toArray.size : Int) - 1))).objs.size (.lst xs.reverse)) { s1 with heap := s'.heap, toks := s'.toks } :=
    I2.turnedNew (ch := [s1.heap.objs.size]) (fun b ob hb e => hm'.heap b ob (fun hmem => by
      rcases List.mem_cons.mp hmem with z | z
      · exact absurd (Heap.lt_size e) (by rw [z]; exact Nat.lt_irrefl _)
      · exact hb z) (Heap.get?_push_of_some _ e)) (fun b hb => by rw [List.mem_singleton.mp hb]; exact ⟨f0, f1, f2, f3, f4, f5⟩) (Nat.le_refl _) ⟨by rw [List.length_reverse]; exact hz, acc.toList, c', hi, hS2⟩
  exact ⟨.ref _, _, I3, rfl, q _ (I2.hok.fresh (Nat.le_refl _))⟩
def lstRevD (a : D) : Option (List D) := match a with
  | .lst xs => some xs.reverse
  | _ => none
theorem fListRev (hc : X.calm = true) (hb : Bn X.mg) (ha : PE X e (RdB B fa)) (hg : Gl X "list" := by rfl) (hg2 : Gl X "reversed" := by rfl) (hs : starEach [e] X.env = (false, eval e X.env) :: starEach [] X.env := by rfl)
    (hs2 : starEach [.Call (.Name "reversed" p2) [e] [] pos2] X.env = (false, eval (.Call (.Name "reversed" p2) [e] [] pos2) X.env) :: starEach [] X.env := by rfl) :
    PE X (.Call (.Name "list" p) [.Call (.Name "reversed" p2) [e] [] pos2] [] pos) (RdF B (opF1 lstRevD fa)) :=
  f_op1 (r := fun v H1 Q => ∃ (a : Addr) (xs : List V), v = .ref a ∧ SqL X.K H1 a xs ∧ ∀ q, H1 q = none → Q (.ref q) (upd H1 q (.lst xs.reverse))) (fun Z H ω x a ds Q G ra h hq => by
    cases a with
    | lst xs =>
      cases h
      obtain ⟨p, vs, rfl, hp, rs⟩ := ra.lst
      exact ⟨p, vs, rfl, SqL.of hp, fun q h0 => hq q _ h0 rs.reverse⟩
    | _ => cases h) (pe_listRev hc hg hb.list hg2 hb.reversed ha hs hs2)
end
end L2.Fl

namespace L2.Fl
open PySem PySem.Spec PyProof.Rows GenW

/-! ### what a def's table gives its places -/
theorem room_gen {k : Nat} {A : Around} (r : Room (k + 1) A) (env : Env) : Room k (A.in1.in1.deeper env) :=
  ⟨r.hd, by have := r.dp; show A.depth + 1 + 3 * k + 5 < _; omega, by have := r.un; show A.units + 1 + 1 + 3 + 16 * k + 200 < _; omega⟩
def FreeT (G : G0) (P : Addr) : Prop := (P, fun _ _ => none) ∈ G.T ∧ ∀ p ∈ G.T, p.1 = P → p.2 = fun _ _ => none
def LamT (G : G0) (P : Addr) (L : Nat → Nat → Option Str) : Prop := (P, L) ∈ G.T ∧ ∀ p ∈ G.T, p.1 = P → p.2 = L
theorem FreeT.of {G : G0} {B : Bc} {P : Addr} {gp : Nat × Nat} (f : FreeT G P) (hB : BOf G B) : TabFree B.g P gp := by
  obtain ⟨pd, e⟩ := hB.g
  rw [e]
  exact ⟨⟨_, f.1⟩, fun p hp z => by rw [f.2 p hp z]⟩
theorem LamT.free {G : G0} {B : Bc} {P : Addr} {L : Nat → Nat → Option Str} (gp : Nat × Nat) (f : LamT G P L) (hB : BOf G B) (h : L gp.1 gp.2 = none) : TabFree B.g P gp := by
  obtain ⟨pd, e⟩ := hB.g
  rw [e]
  exact ⟨⟨_, f.1⟩, fun p hp z => by rw [f.2 p hp z]; exact h⟩
theorem LamT.of {G : G0} {B : Bc} {P : Addr} {L : Nat → Nat → Option Str} (f : LamT G P L) (hB : BOf G B) : TabLam B.g P L := by
  obtain ⟨pd, e⟩ := hB.g
  rw [e]
  exact ⟨f.1, f.2⟩
theorem TabB.toG {base : Heap} {mg : Str → Option Value} {c P : Addr} (t : LamX.TabB base mg c P) : GxR.TabB base mg c P := ⟨t.code, t.bm, t.gP⟩
theorem genEv {G : G0} {X : Cx} {B : Bc} {c P : Addr} {gp : Nat × Nat} (hB : BOf G B) (t : LamX.TabB X.base X.mg c P) (f : FreeT G P) (hc : X.env.code = .ref c) (dot : (".0" : Str) ∉ X.N) (nd : X.N.Nodup) (calm : X.calm = true) : GenEv X B c P gp := ⟨TabB.toG t, f.of hB, hc, dot, nd, calm⟩
theorem genEvL {G : G0} {X : Cx} {B : Bc} {c P : Addr} {L : Nat → Nat → Option Str} (gp : Nat × Nat) (hB : BOf G B) (t : LamX.TabB X.base X.mg c P) (f : LamT G P L) (h : L gp.1 gp.2 = none) (hc : X.env.code = .ref c) (dot : (".0" : Str) ∉ X.N) (nd : X.N.Nodup) (calm : X.calm = true) : GenEv X B c P gp := ⟨TabB.toG t, f.free gp hB h, hc, dot, nd, calm⟩
theorem lamEv {G : G0} {X : Cx} {B : Bc} {c P : Addr} {L : Nat → Nat → Option Str} (hB : BOf G B) (t : LamX.TabB X.base X.mg c P) (f : LamT G P L) (hc : X.env.code = .ref c) : LamEv X B c P L := ⟨t, f.of hB, hc⟩
theorem passLam {X : Cx} {A : Around} {outer : List Env} {s : Shared} {H : Hp} {E : XK} {scope : Scope} {f c' : Addr} : Passes (L2.CX X.prog X.w) (LamX.lamCx X A outer s H E scope f c') E :=
  passes_call (X := LamX.lamCx X A outer s H E scope f c') (W := fun cls d _ H => E cls d H) (takes_of rfl rfl rfl rfl) (fun _ _ _ _ h => h)
theorem m_callL {X : Cx} {A : Around} {outer : List Env} {s : Shared} {H : Hp} {scope : Scope} {f c' : Addr} {B : Bc} {G : G0} {e : Expr} {es : List Expr} {x : Str} {p pos : Pos} {fM : FM} {k j n : Nat} {fa : EM (List D)} (kn : Kn X.prog X.w X.K X.mg X.base G x j n fM) (hB : BOf G B) (hr : Room k (LamX.lamCx X A outer s H B.E scope f c').A) (hk : j ≤ k) (hg : Gl (LamX.lamCx X A outer s H B.E scope f c') x)
    (ha : PA (LamX.lamCx X A outer s H B.E scope f c') (e :: es) (RdA B fa)) (hdb : (x == ("__debug__" : Str)) = false := by decide) (he : starEach (e :: es) (LamX.lamCx X A outer s H B.E scope f c').env = (false, eval e (LamX.lamCx X A outer s H B.E scope f c').env) :: starEach es (LamX.lamCx X A outer s H B.E scope f c').env := by rfl) (hpl : (backTo pos (starEach es (LamX.lamCx X A outer s H B.E scope f c').env)).any (·.1) = false := by rfl) :
    PE (LamX.lamCx X A outer s H B.E scope f c') (.Call (.Name x p) (e :: es) [] pos) (RdE B (callM fM n fa)) := m_call (X := LamX.lamCx X A outer s H B.E scope f c') kn hB hr hk hg (passLam (X := X) (A := A) (outer := outer) (s := s) (H := H) (E := B.E) (scope := scope) (f := f) (c' := c')) ha hdb he hpl
/-- a def that tells what it is given: its body a try -/
theorem toldFn {P : Program} {w : World} {K : PySem.W.Frag} {mg : Str → Option Value} {base : Heap} {x a : Str} {st : Stmt} {f : Addr} {fd : FuncData} {cv : Value} {l : List (Value × Str)} {N : List Str} {h₀ : ExceptHandler} {hds : List ExceptHandler} {p1 p2 p3 p8 : Pos}
    (F : FunC K x x st f fd cv) (S : FnScope N [a] (defScope st)) (hm : mg x = some (.ref f)) (hb : Binds K fd [a] []) (hN : N[0]? = some a) (hv : Vis (defScope st) a) (hd : (a == ("__debug__" : Str)) = false) (hcd : (a == ("__classdict__" : Str)) = false)
    (hbody : defBody st = [.Try [.Return (some (.Call (.Name a p1) [] [] p2)) p3] (h₀ :: hds) [] [] p8]) (h0 : ∀ f : Addr, (L2.start N [V.ref f])[0]? = some (some (V.ref f)))
    (hh : ∀ (A : Around) (outer : List Env) (s : Shared) (H : Hp), HdsOk (cxOf C8.CX0 P w K mg base N x (defScope st) f cv A outer s H C8.E0).nox (h₀ :: hds) (hdl l)) : ToldFn P w K mg base x l := by
  obtain ⟨oc, od, kV, doc, pm, an, ct, osl, rfl, lk, hc⟩ := F.ex
  refine ⟨fun X e1 e2 e3 e4 e5 => ⟨a, f, defArgs st, defBody st, defScope st, .none, kV, doc, pm, cv, ct, oc, an, od, osl, N, hm, F.kp, lk, hc, hb, S, hN, hv, hd, hcd, fun q => ?_⟩⟩
  subst e1 e2 e3 e4 e5
  rw [hbody]
  exact told_many h0 hh
theorem ExmOk.of {G : G0} {B : Bc} {K : PySem.W.Frag} {hs : List (Nat × Str)} (h : ExmOk K G.cls hs) (hB : BOf G B) : ExmOk K B.cls hs := by rw [hB.cls]; exact h
theorem ToldFn.of {P : Program} {w : World} {K : PySem.W.Frag} {mg : Str → Option Value} {base : Heap} {x : Str} {G : G0} {B : Bc} {hs : List (Nat × Str)} (h : ToldFn P w K mg base x (hs.map fun h => (.ref (G.cls h.1), h.2))) (hB : BOf G B) : ToldFn P w K mg base x (hs.map fun h => (.ref (B.cls h.1), h.2)) := by rw [hB.cls]; exact h
theorem OwnX.names {X : Cx} {x : Str} {C : Addr} (o : OwnX X.K X.mg x C) (hg : Gl X x := by rfl) (hd : (x == ("__debug__" : Str)) = false := by decide) : Names X x (.ref C) := ⟨hg, hd, .inl o.g⟩
section
variable {X : Cx} {B : Bc} {o e a b tg : Expr} {pos apos cpos p : Pos} {st : Stmt} {fa fb : EM D} {k : Nat}
theorem sPopT {t : TM} {sl : List Nat} {i : Nat} (ho : PE X o (tVar i)) (hg : PG X tg (RdG B t sl)) (hbase : attributeBase o "pop" X.env (eval o X.env) = eval o X.env := by rfl) (hline : (apos.endLine == cpos.line) = true := by rfl)
    (hs : swapsWithSole [tg] (.Call (.Attribute o "pop" apos) [] [] cpos) pos.line X.env = pure false := by rfl) (hw : swappedStores [tg] (.Call (.Attribute o "pop" apos) [] [] cpos) X.env = pure none := by rfl)
    (h1 : (assignEach [tg] X.env).map (·.2) = [assign tg X.env] := by rfl) :
    PS X (.Assign [tg] (.Call (.Attribute o "pop" apos) [] [] cpos) pos) (RdS B (popTS t i)) :=
  s_popT (ps_asg (pe_bm0 PySem.F.plainAttrs_list PySem.F.slot_list_pop PySem.F.type_list_pop mt_pop ho hbase hline) hg hs hw h1)
theorem eMulT (ha : PE X a (RdB B fa)) (hb : PE X b (RdB B fb)) : PE X (.BinOp a .Mult b pos) (RdE B (op2 mulTD fa fb)) := m_op2 sim_mulT (fun ta tb ha hb => pe_op op_mulTA ha hb) ha hb
theorem tLtX (hr : Room k X.A) (ha : PE X a (RdB B fa)) (hb : PE X b (RdB B fb)) : PT X (.Compare a [.Lt] [b] pos) (RdT B (asB (op2 ltX fa fb))) := m_tcmp sim_ltA (op_ltA (room65 hr)) ha hb (nomark _)
theorem eLtX (hr : Room k X.A) (ha : PE X a (RdB B fa)) (hb : PE X b (RdB B fb)) : PE X (.Compare a [.Lt] [b] pos) (RdE B (op2 ltX fa fb)) := m_cmp sim_ltA (op_ltA (room65 hr)) ha hb (nomark _)
end
/-- a, b, .. = a list of that length -/
def lstT (t : TMs) : TM := fun d ρ => match d with
  | .lst ds => t ds ρ
  | _ => none
theorem g_lst {X : Cx} {B : Bc} {pos : Pos} {es : List Expr} {k n : Nat} {t : TMs} {sl : List Nat} (hc : X.calm = true) (h : PGs X es (RdGs B t sl)) (hl : ∀ ds ρ ρ', t ds ρ = some ρ' → ds.length = n)
    (hn : (assignEach es X.env).length = n := by rfl) (hst : (assignEach es X.env).findIdx? (·.1) = none := by rfl) : PG X (.Tuple es k pos) (RdG B (lstT t) sl) := PG.imp (pg_lst hc h hn hst) fun v σ H Q ⟨Z, ρ, ω, d, j, r, q⟩ => by
  cases d with
  | lst ds =>
    simp only [lstT] at q
    obtain ⟨p, vs, rfl, hp, r1⟩ := BR.lst (g := B.g) (.inl r)
    cases et : t ds ρ with
    | none => simp only [et] at q
    | some ρ' =>
      refine ⟨p, vs, rfl, SqL.of hp, by rw [← r1.length]; exact hl ds ρ ρ' et, Z, ρ, ω, ds, j, r1, ?_⟩
      rw [et] at q ⊢
      exact q
  | _ => exact q.elim
/-! ### recursion by fuel -/
def badF : FM := fun _ _ => .bad
theorem fn_bad {P : Program} {w : World} {K : PySem.W.Frag} {mg : Str → Option Value} {base : Heap} {G : G0} {k n : Nat} {f : Addr} {fd : FuncData} {ps : List Str} : FnOk P w K mg base (CX P w) k f fd ps (spM G n badF) :=
  ⟨fun vs H Q E ⟨_, _, _, _, _, _, _, h⟩ => h.elim, fun A outer s H args us vs Q E _ _ _ _ ⟨_, _, _, _, _, _, _, h⟩ => h.elim⟩
def fuelM (F : FM → FM) : Nat → FM
  | 0 => badF
  | i + 1 => F (fuelM F i)
theorem kn_rec {P : Program} {w : World} {K : PySem.W.Frag} {mg : Str → Option Value} {base : Heap} {G : G0} {x : Str} {f : Addr} {fd : FuncData} {ps : List Str} {n : Nat} {F : FM → FM} {k0 : Nat} (hm : mg x = some (.ref f)) (hk : PySem.W.keepIn K (.ref f) = true) (hb : Binds K fd ps [])
    (ok : ∀ (fm : FM) (k : Nat), k0 ≤ k → Kn P w K mg base G x k n fm → FnOk P w K mg base (CX P w) (k + 1) f fd ps (spM G n (F fm))) : ∀ i, Kn P w K mg base G x (k0 + i) n (fuelM F i)
  | 0 => mkKn (fn_bad (f := f) (fd := fd) (ps := ps)) hm hk hb
  | i + 1 => mkKn (ok (fuelM F i) (k0 + i) (Nat.le_add_right _ _) (kn_rec (k0 := k0) hm hk hb ok i)) hm hk hb
/-! ### the ending -/
theorem tabIn_of {K : PySem.W.Frag} {x : Str} {f c P : Addr} {oc : Value} {od : Option Addr} {fd : FuncData} {sl : Array (Option Value)} {e : Value} {dd : Option Addr} {vs : Array Value} {sl' : Array (Option Value)} (a : PySem.W.nsIn K mainGlobals x = some (some (.ref f))) (l : K.lookup f = some ⟨oc, od, .func fd, sl⟩)
    (hc : fd.code = .ref c) (lc : K.lookup c = some ⟨e, dd, .fields vs, sl'⟩) (hv : vs[11]? = some (.ref P)) : PySem.W.tabIn K x = some (c, P) := by
  unfold PySem.W.tabIn
  simp only [a, l, hc, lc, hv]
def TabAll (q : Program) (K : PySem.W.Frag) (h : Heap) : Prop := ∀ (d : DefRec) (x : Str) (c P : Addr), (recsOf q).find? (fun e => e.name == x) = some d → PySem.W.tabIn K x = some (c, P) → PySem.W.CodeHd h c P ∧ h.get? P = some (PySem.W.tabObj #[])
theorem walk_tabs {l : PySem.W.OpenLaw} {n k : Nat} {q : Program} {loose : List Str} {XP : (Str → Option Value) → Heap → Prop} {YP : World → Heap → Prop} {d : DefRec} {K : Params → PySem.W.Frag} {CX : World → CXT} {x : Str}
    (hn : l.most = some n) (hn2 : n ≤ sizeLine) (hdf : d.params.defaults = []) (hr : Room k callerA) (hY : ∀ (w : World) (h : Heap), YP w h → (K w.params).In h)
    (F : ∀ (w : World) (mg : Str → Option Value) (fa : Addr) (h : Heap), YP w h → (K w.params).In h → h.Ns mainGlobals mg → mg d.name = some (.ref fa) → TabAll q (K w.params) h → LamX.LawAtS l w (K w.params) (CX w) k n x mg fa h)
    (hCX : ∀ (w : World) (H : Hp) (s : Shared) (e : Value) (s' : Shared), CX w [] H s (fun _ _ _ => False) e s' → False) :
    PySem.W.WalkO q loose XP YP l.row.toRowW d [] (fun f vs => PySem.call f vs) := by
  refine Att.attach_callB hn hdf fun w s₀ s₁ mg mb fa o pm cd doc a vs ns G Y ho hd hcd hmg hobj hints hlen hbits hg => ?_
  have KX := hY w _ Y
  have tabs : TabAll q (K w.params) s₁.heap := fun d' x' c P h1 h2 => PySem.W.tab_of G.T KX h1 h2
  obtain ⟨fd, cs, sp, hT, nT, C, hb, hsp, hF⟩ := F w mg fa _ Y KX G.T.g hmg tabs
  exact LamX.law_callTs KX G.T.g G.T.b G.T.builtins G.T.nolimit hg hT nT C G.T.bmain hobj hints (Nat.le_trans hlen hn2) hr hF hb (fun H hH hS => hsp H a ns hlen hbits hH hS) fun H e s' => hCX w H s₁ e s'
end L2.Fl

namespace L2.Fl
open PySem PySem.Spec PyProof.Rows

/-! ### the order of plain data -/
theorem ltd_irrefl (a : D) : ltd a a = false := lex_irrefl _
theorem ltd_trans {a b c : D} (h : ltd a b = true) (h2 : ltd b c = true) : ltd a c = true := lex_trans _ _ _ h h2
theorem ltd_neg {a c : D} (b : D) (h : ltd a c = true) : ltd a b = true ∨ ltd b c = true := lex_negTrans (O := itemOrd) _ (PySem.W.keyToks (pD b)) _ h
theorem ltd_le {a b c : D} (h : ltd b a = false) (h2 : ltd c b = false) : ltd c a = false := by
  cases e : ltd c a with
  | false => rfl
  | true => rcases ltd_neg b e with z | z
            · rw [z] at h2; cases h2
            · rw [z] at h; cases h
theorem ltd_asymm {a b : D} (h : ltd a b = true) : ltd b a = false := by
  cases e : ltd b a with
  | false => rfl
  | true => have := ltd_trans h e; rw [ltd_irrefl] at this; cases this
theorem toks_inj {x y : PyData} (h : PySem.W.alike x y = true) (e : PySem.W.keyToks x = PySem.W.keyToks y) : PyData.eqv x y = true := by
  cases hv : PyData.eqv x y with
  | true => rfl
  | false =>
    have := (PySem.W.toks_eqv x y h).2 hv [.inl 0] [.inl 1]
    rw [e, PySem.W.lex_pre, lex_irrefl] at this
    exact absurd this (by decide)
theorem eqd_of_not {a b : D} (h : PySem.W.alike (pD a) (pD b) = true) (ha : okD a 8 = true) (hb : okD b 8 = true) (h1 : ltd a b = false) (h2 : ltd b a = false) : eqd a b = true := by
  have e : PySem.W.keyToks (pD a) = PySem.W.keyToks (pD b) := lex_total _ _ h1 h2
  have := toks_inj h e
  rw [eqd_eqv a b 8 8 ha hb] at this
  exact this
theorem ltd_int (i j : Int) : ltd (.int i) (.int j) = decide (i < j) := by
  unfold ltd
  simp only [pD]
  exact PySem.W.dataLt_int i j
theorem ltd_tup_nil : ltd (.tup []) (.tup []) = false := ltd_irrefl _
theorem ltd_tup_nc (y : D) (ys : List D) : ltd (.tup []) (.tup (y :: ys)) = true := by
  unfold ltd
  simp only [pD, pDs]
  rw [PySem.W.dataLt_tuple]
  rfl
theorem ltd_tup_cn (y : D) (ys : List D) : ltd (.tup (y :: ys)) (.tup []) = false := ltd_asymm (ltd_tup_nc y ys)
theorem ltd_tup_cons {x y : D} (h : PySem.W.alike (pD x) (pD y) = true) (hx : okD x 8 = true) (hy : okD y 8 = true) (xs ys : List D) : ltd (.tup (x :: xs)) (.tup (y :: ys)) = if eqd x y = true then ltd (.tup xs) (.tup ys) else ltd x y := by
  unfold ltd
  simp only [pD, pDs]
  rw [PySem.W.dataLt_tuple, PySem.W.dataLt_tuple, PySem.W.dataLt_cons h, eqd_eqv x y 8 8 hx hy]
/-- the order of rows of whole numbers -/
def lexI : List Int → List Int → Bool
  | [], [] => false
  | [], _ :: _ => true
  | _ :: _, [] => false
  | x :: xs, y :: ys => decide (x < y) || (x == y && lexI xs ys)
theorem ltd_TU : ∀ xs ys : List Int, ltd (TU xs) (TU ys) = lexI xs ys
  | [], [] => ltd_tup_nil
  | [], y :: ys => ltd_tup_nc _ _
  | x :: xs, [] => ltd_tup_cn _ _
  | x :: xs, y :: ys => by
    have ih := ltd_TU xs ys
    show ltd (.tup (.int x :: xs.map D.int)) (.tup (.int y :: ys.map D.int)) = _
    rw [ltd_tup_cons (by simp [pD, PySem.W.alike]) rfl rfl]
    simp only [eqd, ltd_int, lexI]
    by_cases h : x = y
    · subst h
      simp only [BEq.rfl, if_true]
      rw [show ltd (.tup (xs.map D.int)) (.tup (ys.map D.int)) = lexI xs ys from ih]
      simp
    · have hb : (x == y) = false := by simpa using h
      simp [hb]
theorem bestD_cons (c : D → D → Bool) (x y : D) (xs : List D) : bestD c x (y :: xs) = bestD c (if c x y then y else x) xs := rfl
theorem bestD_mem (c : D → D → Bool) : ∀ (xs : List D) (x : D), bestD c x xs ∈ x :: xs
  | [], x => List.mem_cons_self
  | y :: xs, x => by
    rw [bestD_cons]
    have := bestD_mem c xs (if c x y then y else x)
    rcases List.mem_cons.mp this with e | e
    · rw [e]; split
      · exact List.mem_cons_of_mem _ List.mem_cons_self
      · exact List.mem_cons_self
    · exact List.mem_cons_of_mem _ (List.mem_cons_of_mem _ e)
/-- nothing beats the best -/
theorem bestD_top {c : D → D → Bool} (irr : ∀ a, c a a = false) (neg : ∀ a b d, c a d = true → c a b = true ∨ c b d = true) (tr : ∀ a b d, c a b = true → c b d = true → c a d = true) : ∀ (xs : List D) (x : D), ∀ y ∈ x :: xs, c (bestD c x xs) y = false
  | [], x, y, hy => by
    rcases List.mem_cons.mp hy with rfl | h
    · exact irr _
    · cases h
  | z :: xs, x, y, hy => by
    rw [bestD_cons]
    have ih := bestD_top irr neg tr xs (if c x z then z else x)
    rcases List.mem_cons.mp hy with rfl | h
    · have h1 := ih _ List.mem_cons_self
      cases e : c (bestD c (if c y z then z else y) xs) y with
      | false => rfl
      | true =>
        by_cases hc : c y z = true
        · rw [if_pos hc] at h1 e
          rw [tr _ _ _ e hc] at h1; cases h1
        · rw [if_neg hc] at h1 e
          rw [h1] at e; cases e
    · rcases List.mem_cons.mp h with rfl | h
      · have h1 := ih _ List.mem_cons_self
        by_cases hc : c x y = true
        · rw [if_pos hc] at h1 ⊢
          exact h1
        · rw [if_neg hc] at h1 ⊢
          cases e : c (bestD c x xs) y with
          | false => rfl
          | true =>
            rcases neg _ x _ e with z' | z'
            · rw [z'] at h1; cases h1
            · exact absurd z' hc
      · exact ih y (List.mem_cons_of_mem _ h)
theorem maxD_top (x : D) (xs : List D) : ∀ y ∈ x :: xs, ltd (bestD (fun a y => ltd a y) x xs) y = false := bestD_top (fun a => ltd_irrefl a) (fun a b d h => ltd_neg b h) (fun a b d h h2 => ltd_trans h h2) xs x
theorem minD_top (x : D) (xs : List D) : ∀ y ∈ x :: xs, ltd y (bestD (fun a y => ltd y a) x xs) = false := bestD_top (c := fun a y => ltd y a) (fun a => ltd_irrefl a) (fun a b d h => (ltd_neg b h).symm) (fun a b d h h2 => ltd_trans h2 h) xs x
/-! descending rows -/
def insI (a : Int) : List Int → List Int
  | [] => [a]
  | b :: l => if b ≤ a then a :: b :: l else b :: insI a l
def sdI (l : List Int) : List Int := l.foldr insI []
theorem insI_comm (a b : Int) : ∀ l : List Int, insI a (insI b l) = insI b (insI a l)
  | [] => by
    simp only [insI]
    by_cases h : b ≤ a <;> by_cases h2 : a ≤ b <;> simp [h, h2] <;> omega
  | c :: l => by
    have ih := insI_comm a b l
    simp only [insI]
    by_cases h1 : c ≤ b <;> by_cases h2 : c ≤ a <;> simp only [h1, h2, if_true, if_false, insI]
    · by_cases h : b ≤ a <;> by_cases h' : a ≤ b <;> simp [h, h'] <;> omega
    · have : ¬ b ≤ a := by omega
      simp [this, h2, h1]
    · have : ¬ a ≤ b := by omega
      simp [this, h1, h2]
    · rw [ih]
theorem insI_perm (a : Int) : ∀ l : List Int, (insI a l).Perm (a :: l)
  | [] => .refl _
  | b :: l => by
    unfold insI
    split
    · exact .refl _
    · exact ((insI_perm a l).cons b).trans (.swap a b l)
theorem sdI_perm : ∀ l : List Int, (sdI l).Perm l
  | [] => .refl _
  | a :: l => (insI_perm a (sdI l)).trans ((sdI_perm l).cons a)
theorem sdI_of_perm {l m : List Int} (h : l.Perm m) : sdI l = sdI m := by
  induction h with
  | nil => rfl
  | cons a _ ih => show insI a (sdI _) = insI a (sdI _); rw [ih]
  | swap a b l => exact insI_comm b a (sdI l)
  | trans _ _ h1 h2 => exact h1.trans h2
theorem sdI_len (l : List Int) : (sdI l).length = l.length := (sdI_perm l).length_eq
/-- what Python's sorted gives of whole numbers, from the greatest -/
theorem isort_desc : ∀ l : List Int, isortD (leS true) (l.map D.int) = (sdI l).map D.int
  | [] => rfl
  | a :: l => by
    have key : ∀ m : List Int, insD (leS true) (.int a) (m.map D.int) = (insI a m).map D.int := by
      intro m
      induction m with
      | nil => rfl
      | cons b m ih =>
        simp only [List.map_cons, insD, insI, leS, cond_true, ltd_int]
        by_cases h : b ≤ a
        · simp [h, Int.not_lt.mpr h]
        · simp only [h, if_false, List.map_cons, ← ih]
          simp [Int.not_le.mp h, leS]
    show insD (leS true) (.int a) (isortD (leS true) (l.map D.int)) = _
    rw [isort_desc l, key]; rfl
def insA (a : Int) : List Int → List Int
  | [] => [a]
  | b :: l => if a ≤ b then a :: b :: l else b :: insA a l
def saI (l : List Int) : List Int := l.foldr insA []
theorem isort_asc : ∀ l : List Int, isortD (leS false) (l.map D.int) = (saI l).map D.int
  | [] => rfl
  | a :: l => by
    have key : ∀ m : List Int, insD (leS false) (.int a) (m.map D.int) = (insA a m).map D.int := by
      intro m
      induction m with
      | nil => rfl
      | cons b m ih =>
        simp only [List.map_cons, insD, insA, leS, cond_false, ltd_int]
        by_cases h : a ≤ b
        · simp [h, Int.not_lt.mpr h]
        · simp only [h, if_false, List.map_cons, ← ih]
          simp [Int.not_le.mp h, leS]
    show insD (leS false) (.int a) (isortD (leS false) (l.map D.int)) = _
    rw [isort_asc l, key]; rfl
theorem insA_perm (a : Int) : ∀ l : List Int, (insA a l).Perm (a :: l)
  | [] => .refl _
  | b :: l => by
    unfold insA
    split
    · exact .refl _
    · exact ((insA_perm a l).cons b).trans (.swap a b l)
theorem saI_perm : ∀ l : List Int, (saI l).Perm l
  | [] => .refl _
  | a :: l => (insA_perm a (saI l)).trans ((saI_perm l).cons a)
theorem saI_sorted : ∀ l : List Int, (saI l).Pairwise (· ≤ ·)
  | [] => .nil
  | a :: l => by
    have key : ∀ m : List Int, m.Pairwise (· ≤ ·) → (insA a m).Pairwise (· ≤ ·) := by
      intro m
      induction m with
      | nil => intro _; exact List.pairwise_singleton _ _
      | cons b m ih =>
        intro h
        unfold insA
        have hb := List.pairwise_cons.mp h
        split
        · rename_i hab
          refine List.pairwise_cons.mpr ⟨fun c hc => ?_, h⟩
          rcases List.mem_cons.mp hc with rfl | hc
          · exact hab
          · have := hb.1 c hc; omega
        · rename_i hab
          refine List.pairwise_cons.mpr ⟨fun c hc => ?_, ih hb.2⟩
          rcases List.mem_cons.mp ((insA_perm a m).mem_iff.mp hc) with rfl | hc
          · omega
          · exact hb.1 c hc
    exact key _ (saI_sorted l)
theorem sdI_sorted : ∀ l : List Int, (sdI l).Pairwise (· ≥ ·)
  | [] => .nil
  | a :: l => by
    have key : ∀ m : List Int, m.Pairwise (· ≥ ·) → (insI a m).Pairwise (· ≥ ·) := by
      intro m
      induction m with
      | nil => intro _; exact List.pairwise_singleton _ _
      | cons b m ih =>
        intro h
        unfold insI
        have hb := List.pairwise_cons.mp h
        split
        · rename_i hab
          refine List.pairwise_cons.mpr ⟨fun c hc => ?_, h⟩
          rcases List.mem_cons.mp hc with rfl | hc
          · exact hab
          · have := hb.1 c hc; omega
        · rename_i hab
          refine List.pairwise_cons.mpr ⟨fun c hc => ?_, ih hb.2⟩
          rcases List.mem_cons.mp ((insI_perm a m).mem_iff.mp hc) with rfl | hc
          · omega
          · exact hb.1 c hc
    exact key _ (sdI_sorted l)
theorem saI_rev (l : List Int) : (saI l).reverse = sdI l := by
  refine List.Perm.eq_of_pairwise (le := fun a b : Int => a ≥ b) (fun a b _ _ h1 h2 => by omega) ?_ (sdI_sorted l) ((List.reverse_perm _).trans ((saI_perm l).trans (sdI_perm l).symm))
  rw [List.pairwise_reverse]
  exact saI_sorted l
theorem insI_mono {a b : List Int} (t : Int) : lexI b a = false → lexI (insI t b) (insI t a) = false := by
  induction a generalizing b with
  | nil =>
    intro h
    cases b with
    | nil => simp [insI, lexI]
    | cons y ys => simp only [insI]; split <;> simp [lexI] <;> omega
  | cons x xs ih =>
    intro h
    cases b with
    | nil => simp [lexI] at h
    | cons y ys =>
      simp only [lexI, Bool.or_eq_false_iff, decide_eq_false_iff_not, Bool.and_eq_false_iff] at h
      obtain ⟨h1, h2⟩ := h
      simp only [insI]
      by_cases hxy : y = x
      · subst hxy
        have h3 : lexI ys xs = false := by
          rcases h2 with h2 | h2
          · simp at h2
          · exact h2
        split
        · simp [lexI, h3]
        · simp [lexI, ih h3]
      · split <;> split <;> simp [lexI] <;> omega
end L2.Fl

namespace L2.Fl
open PySem PySem.Spec PyProof.Rows
/-! generator expressions, evaluated -/
theorem wipeF_len' : ∀ (vs : List Nat) (ρ : Fr), (wipeF vs ρ).length = ρ.length
  | [], _ => rfl
  | v :: vs, ρ => by simp only [wipeF, List.length_set, wipeF_len' vs ρ]
theorem restF_len' : ∀ (vs : List Nat) (ρ0 ρ : Fr), (restF vs ρ0 ρ).length = ρ.length
  | [], _, _ => rfl
  | v :: vs, ρ0, ρ => by simp only [restF, List.length_set, restF_len' vs ρ0 ρ]
theorem rest_in {ρ : Fr} {k : Nat} (hk : k < ρ.length) : ∀ (ts : List Nat) (μ : Fr), μ.length = ρ.length → k ∈ ts → (restF ts ρ μ)[k]? = ρ[k]?
  | [], _, _, h => by cases h
  | t :: ts, μ, hμ, h => by
    simp only [restF]
    by_cases e : t = k
    · subst e
      rw [List.getElem?_set_self (by rw [restF_len', hμ]; exact hk), List.getD_eq_getElem?_getD, List.getElem?_eq_getElem hk]
      rfl
    · rw [List.getElem?_set_ne e]
      rcases List.mem_cons.mp h with h | h
      · exact absurd h.symm e
      · exact rest_in hk ts μ hμ h
theorem rest_out {ρ : Fr} {k : Nat} : ∀ (ts : List Nat) (μ : Fr), k ∉ ts → (restF ts ρ μ)[k]? = μ[k]?
  | [], _, _ => rfl
  | t :: ts, μ, h => by
    simp only [restF]
    rw [List.getElem?_set_ne (fun z => h (by rw [z]; exact List.mem_cons_self))]
    exact rest_out ts μ fun z => h (List.mem_cons_of_mem _ z)
theorem wipe_out {k : Nat} : ∀ (ts : List Nat) (μ : Fr), k ∉ ts → (wipeF ts μ)[k]? = μ[k]?
  | [], _, _ => rfl
  | t :: ts, μ, h => by
    simp only [wipeF]
    rw [List.getElem?_set_ne (fun z => h (by rw [z]; exact List.mem_cons_self))]
    exact wipe_out ts μ fun z => h (List.mem_cons_of_mem _ z)
theorem rest_wipe (ρ : Fr) (vs : List Nat) : restF vs ρ (wipeF vs ρ) = ρ := by
  refine List.ext_getElem? fun k => ?_
  by_cases hk : k < ρ.length
  · by_cases h : k ∈ vs
    · exact rest_in hk vs _ (wipeF_len' vs ρ) h
    · rw [rest_out vs _ h, wipe_out vs _ h]
  · rw [List.getElem?_eq_none (by rw [restF_len', wipeF_len']; omega), List.getElem?_eq_none (by omega)]
/-- any and all over a generator expression -/
theorem seek_ok {want : Bool} {vs : List Nat} {it : EM (List D)} {t : TM} {te : EM D} {ρ : Fr} {ω : W3} {ds : List D} (p : D → Bool) (h : it ρ ω = .ok ds ρ ω) (hn : noOwn vs ρ = true)
    (he : ∀ d ∈ ds, ∃ ρ1 ρ2, t d (wipeF vs ρ) = some ρ1 ∧ te ρ1 ω = .ok (.bl (p d)) ρ2 ω ∧ wipeF vs ρ2 = wipeF vs ρ) : seekM want vs it t yesT te ρ ω = .ok (.bl (if ds.any (fun d => p d == want) then want else !want)) ρ ω := by
  have key : ∀ ds : List D, (∀ d ∈ ds, ∃ ρ1 ρ2, t d (wipeF vs ρ) = some ρ1 ∧ te ρ1 ω = .ok (.bl (p d)) ρ2 ω ∧ wipeF vs ρ2 = wipeF vs ρ) → foldG vs t yesT te (seekF want) ds () (wipeF vs ρ) ω = .ok (if ds.any (fun d => p d == want) then .inr (.bl want) else .inl ()) (wipeF vs ρ) ω := by
    intro ds
    induction ds with
    | nil => intro _; rfl
    | cons d ds ih =>
      intro he
      obtain ⟨ρ1, ρ2, e1, e2, e3⟩ := he d List.mem_cons_self
      simp only [foldG, e1, yesT, Out.thenB, e2, seekF]
      by_cases c : p d = want
      · simp [c, e3]
      · simp only [c, if_false, e3, ih fun d' hd => he d' (List.mem_cons_of_mem _ hd), List.any_cons]
        simp [c]
  unfold seekM foldM
  rw [h]
  simp only [Out.andThen, hn, if_true, key ds he, Out.thenB, rest_wipe]
  by_cases c : ds.any (fun d => p d == want) = true
  · simp [c, endG]
  · simp only [Bool.not_eq_true] at c
    simp [c, endG]
theorem sum_ok {vs : List Nat} {it : EM (List D)} {t : TM} {te : EM D} {ρ : Fr} {ω : W3} {ds : List D} (p : D → Int) (h : it ρ ω = .ok ds ρ ω) (hn : noOwn vs ρ = true)
    (he : ∀ d ∈ ds, ∃ ρ1 ρ2, t d (wipeF vs ρ) = some ρ1 ∧ te ρ1 ω = .ok (.int (p d)) ρ2 ω ∧ wipeF vs ρ2 = wipeF vs ρ) : sumM vs it t yesT te ρ ω = .ok (.int (ds.map p).sum) ρ ω := by
  have key : ∀ (ds : List D) (a : Int), (∀ d ∈ ds, ∃ ρ1 ρ2, t d (wipeF vs ρ) = some ρ1 ∧ te ρ1 ω = .ok (.int (p d)) ρ2 ω ∧ wipeF vs ρ2 = wipeF vs ρ) → foldG vs t yesT te sumF ds a (wipeF vs ρ) ω = .ok (.inl (a + (ds.map p).sum)) (wipeF vs ρ) ω := by
    intro ds
    induction ds with
    | nil => intro a _; simp [foldG]
    | cons d ds ih =>
      intro a he
      obtain ⟨ρ1, ρ2, e1, e2, e3⟩ := he d List.mem_cons_self
      simp only [foldG, e1, yesT, Out.thenB, e2, sumF, e3, ih (a + p d) fun d' hd => he d' (List.mem_cons_of_mem _ hd), List.map_cons, List.sum_cons, Int.add_assoc]
  unfold sumM foldM
  rw [h]
  simp only [Out.andThen, hn, if_true, key ds 0 he, Out.thenB, rest_wipe, endG, Int.zero_add]
/-- one name, whole numbers -/
theorem seek1_ok {want : Bool} {c : Nat} {it : EM (List D)} {te : EM D} {ρ : Fr} {ω : W3} {is : List Int} (p : Int → Bool) (h : it ρ ω = .ok (is.map D.int) ρ ω) (hn : isOwn ρ[c]? = false)
    (he : ∀ i ∈ is, te (ρ.set c (.val (.int i))) ω = .ok (.bl (p i)) (ρ.set c (.val (.int i))) ω) : seekM want [c] it (nmT c) yesT te ρ ω = .ok (.bl (if is.any (fun i => p i == want) then want else !want)) ρ ω := by
  have := seek_ok (want := want) (vs := [c]) (t := nmT c) (te := te) (fun d => match d with
    | .int i => p i
    | _ => false) h (by simp [noOwn, hn]) (fun d hd => by
      obtain ⟨i, hi, rfl⟩ := List.mem_map.mp hd
      refine ⟨ρ.set c (.val (.int i)), ρ.set c (.val (.int i)), by simp only [nmT, wipeF, List.set_set], he i hi, by simp only [wipeF, List.set_set]⟩)
  rw [this, List.any_map]
  rfl
theorem alikeD_of {xs : List D} (h : ∀ x ∈ xs, ∀ y ∈ xs, PySem.W.alike (pD x) (pD y) = true) (h2 : ∀ x ∈ xs, x ≠ .non) : alikeD xs = true := by
  unfold alikeD
  rw [Bool.and_eq_true]
  refine ⟨List.all_eq_true.mpr fun x hx => List.all_eq_true.mpr fun y hy => h x hx y hy, List.all_eq_true.mpr fun x hx => ?_⟩
  have := h2 x hx
  cases x <;> first | rfl | exact absurd rfl this
theorem alikeD_ints (xs : List Int) : alikeD (xs.map D.int) = true := alikeD_of (fun x hx y hy => by
  obtain ⟨i, _, rfl⟩ := List.mem_map.mp hx
  obtain ⟨j, _, rfl⟩ := List.mem_map.mp hy
  rfl) fun x hx => by
  obtain ⟨i, _, rfl⟩ := List.mem_map.mp hx
  exact fun z => by cases z
theorem alike_ints : ∀ xs ys : List Int, PySem.W.alikeAll (pDs (xs.map D.int)) (pDs (ys.map D.int)) = true
  | [], _ => by simp [pDs, PySem.W.alikeAll]
  | _ :: _, [] => by simp [pDs, PySem.W.alikeAll]
  | x :: xs, y :: ys => by
    simp only [List.map_cons, pDs, pD, PySem.W.alikeAll, PySem.W.alike, Bool.true_and]
    exact alike_ints xs ys
theorem alike_TU (xs ys : List Int) : PySem.W.alike (pD (TU xs)) (pD (TU ys)) = true := by
  simp only [pD, PySem.W.alike]
  exact alike_ints xs ys
theorem sortD_ints (rev : Bool) {a : D} {xs : List Int} (hi : items? a = some (xs.map D.int)) (hl : xs.length ≤ 1000) : sortD rev a = some ((if rev then sdI xs else saI xs).map D.int) := by
  unfold sortD
  rw [hi]
  have h1 : (okDs (xs.map D.int) 8 && alikeD (xs.map D.int) && sortable (xs.map D.int) && decide ((xs.map D.int).length ≤ LIM)) = true := by
    rw [okDs_ints, alikeD_ints]
    have h2 : sortable (xs.map D.int) = true := by
      unfold sortable
      rw [Bool.or_eq_true]
      refine .inr (List.all_eq_true.mpr fun x hx => ?_)
      obtain ⟨i, _, rfl⟩ := List.mem_map.mp hx
      rfl
    rw [h2]
    have : xs.length ≤ LIM := by unfold LIM; omega
    simp [this]
  simp only [h1, if_true]
  cases rev
  · rw [isort_asc]; rfl
  · rw [isort_desc]; rfl
end L2.Fl

namespace L2.Fl
open PySem PySem.Spec PyProof.Rows
/-! ### the law's dice -/
theorem roll_ok {i : Nat} {m : Int} {ρ : Fr} {ω : W3} (h : ρ[i]? = some (.val (.tok 0))) (h0 : 0 < m) (h1 : m < 1073741824) : ∃ v ω', callM fM_n_law_roll 2 (consM (vr i) (consM (kk (.int m)) nilM)) ρ ω = .ok (.int v) ρ ω' ∧ 0 ≤ v ∧ v < m := by
  obtain ⟨v, ω', e, a, b⟩ := roll_eval m h0 h1 ω
  refine ⟨v, ω', ?_, a, b⟩
  simp only [seqS, setS, ownS, appS, popTS, par2, parS, asgS, asgM, augS, ifS, rtS, exS, forM, callM, consM, nilM, consX, consO, nilX, lstD, lstF, tupM, frz, op1, op2, bw, vr, kk, optM, asB, ofT, andT, orT, notT, chM, itM, rng1M, rng2M, enumM, slM, partM, noM, Out.andThen, Out.stm, Out.thenB, SO.andThen, nmT, tupT, consT, nilT, List.set, List.getElem?_cons_succ, List.getElem?_cons_zero, addD_i, subD_i, ltD_i, leD_i, gtD_i, geD_i, skipS, raS, ctS, items?, if_true, if_false, Bool.false_eq_true, List.length_cons, List.length_nil, LIM, Nat.reduceAdd, Nat.reduceLeDiff, Bool.not_true, Bool.not_false, h, e]
/-- a comprehension that draws -/
theorem lc_roll {c : Nat} {it : EM (List D)} {te : EM D} {ρ : Fr} {ω ω1 : W3} {ds : List D} (p : D → Prop) (h : it ρ ω = .ok ds ρ ω1) (hn : isOwn ρ[c]? = false) (hl : ds.length ≤ LIM)
    (he : ∀ d ∈ ds, ∀ ω, ∃ x ω3, te (ρ.set c (.val d)) ω = .ok x (ρ.set c (.val d)) ω3 ∧ p x) : ∃ xs ω', lcM [c] it (nmT c) yesT te ρ ω = .ok xs ρ ω' ∧ (∀ x ∈ xs, p x) ∧ xs.length = ds.length := by
  obtain ⟨xs, ω', e, a, b⟩ := compL_roll (vs := [c]) (t := nmT c) (te := te) (ρ := wipeF [c] ρ) p ds [] ω1 (fun d hd ω => by
    obtain ⟨x, ω3, e, hp⟩ := he d hd ω
    refine ⟨ρ.set c (.val d), by simp only [nmT, wipeF, List.set_set], x, _, ω3, e, hp, by simp only [wipeF, List.set_set]⟩) (by simpa using hl)
  refine ⟨xs, ω', ?_, a, b⟩
  rw [lcM_ok h (by simp [noOwn, hn]) (show compL [c] (nmT c) yesT te ds [] (wipeF [c] ρ) ω1 = .ok xs (wipeF [c] ρ) ω' by simpa using e), rest_wipe]
/-- a comprehension over what is told by a list of plain things -/
theorem lcv_map {α : Type} {vs : List Nat} {it : EM (List D)} {t : TM} {te : EM D} {ρ : Fr} {ω ω1 : W3} {xs : List α} (f g : α → D) (h : it ρ ω = .ok (xs.map f) ρ ω1) (hn : noOwn vs ρ = true) (hl : xs.length ≤ LIM)
    (he : ∀ a ∈ xs, ∃ ρ1 ρ2, t (f a) (wipeF vs ρ) = some ρ1 ∧ te ρ1 ω1 = .ok (g a) ρ2 ω1 ∧ wipeF vs ρ2 = wipeF vs ρ) : lcM vs it t yesT te ρ ω = .ok (xs.map g) ρ ω1 := by
  have key : ∀ (xs : List α) (acc : List D), (∀ a ∈ xs, ∃ ρ1 ρ2, t (f a) (wipeF vs ρ) = some ρ1 ∧ te ρ1 ω1 = .ok (g a) ρ2 ω1 ∧ wipeF vs ρ2 = wipeF vs ρ) → acc.length + xs.length ≤ LIM → compL vs t yesT te (xs.map f) acc (wipeF vs ρ) ω1 = .ok (acc ++ xs.map g) (wipeF vs ρ) ω1 := by
    intro xs
    induction xs with
    | nil => intro acc _ _; simp [compL]
    | cons a xs ih =>
      intro acc he hl
      obtain ⟨ρ1, ρ2, e1, e2, e3⟩ := he a List.mem_cons_self
      have hl' : acc.length + (xs.length + 1) ≤ LIM := by simpa using hl
      have hlt : acc.length < LIM := by omega
      rw [List.map_cons]
      unfold compL
      simp only [e1, yesT, Out.thenB, e2, hlt, if_true, e3]
      rw [ih (acc ++ [g a]) (fun b hb => he b (List.mem_cons_of_mem _ hb)) (by simp; omega)]
      simp
  have := key xs [] he (by simpa using hl)
  rw [lcM_ok h hn this, rest_wipe]
  simp
theorem ints_map : ∀ xs : List Int, ints? (xs.map D.int) = some xs
  | [] => rfl
  | x :: xs => by simp only [List.map_cons, ints?, ints_map xs]; rfl
theorem sumD_L (xs : List Int) : sumD (L xs) = some (.int xs.sum) := by unfold sumD L; simp only [ints_map]
theorem addD_T {xs ys : List D} (h : xs.length + ys.length ≤ 1000) : addD (.tup xs) (.tup ys) = some (.tup (xs ++ ys)) := by
  unfold addD
  have : xs.length + ys.length ≤ LIM := by unfold LIM; omega
  simp only [this, if_true]
theorem addD_Ls {xs ys : List D} (h : xs.length + ys.length ≤ 1000) : addD (.lst xs) (.lst ys) = some (.lst (xs ++ ys)) := by
  unfold addD
  have : xs.length + ys.length ≤ LIM := by unfold LIM; omega
  simp only [this, if_true]
theorem cut_take (xs : List D) (i : Nat) (h : i ≤ xs.length) : cutD xs none (some (i : Int)) = xs.take i := by
  unfold cutD
  rw [HT.sIx_none, HT.sIx_nat, Nat.min_eq_left h]
  simp
theorem cut_drop (xs : List D) (i : Nat) (h : i ≤ xs.length) : cutD xs (some (i : Int)) none = xs.drop i := by
  unfold cutD
  rw [HT.sIx_none, HT.sIx_nat, Nat.min_eq_left h]
  rw [List.take_of_length_le (by simp)]
/-- a told refusal -/
theorem told_exc {hs : List (Nat × Str)} {fm : EM D} {ρ : Fr} {ω ω' : W3} {c : Nat} {r : Str} (h : fm (frzF ρ) ω = .exc c ω') (hl : hs.lookup c = some r) : toldM hs fm ρ ω = .ok (.str r) (frzF ρ) ω' := by
  unfold toldM
  rw [h]
  simp only [hl]
theorem told_okv {hs : List (Nat × Str)} {fm : EM D} {ρ ρ' : Fr} {ω ω' : W3} {d : D} (h : fm (frzF ρ) ω = .ok d ρ' ω') : toldM hs fm ρ ω = .ok d ρ' ω' := by
  unfold toldM
  rw [h]
theorem rangeL_succ' (lo : Nat) (n : Nat) : rangeL (lo : Nat) (n + 1) = .int (lo : Nat) :: rangeL ((lo + 1 : Nat) : Int) n := by
  unfold rangeL
  rw [List.range_succ_eq_map, List.map_cons, List.map_map]
  refine congr (congrArg List.cons ?_) (List.map_congr_left fun i _ => ?_)
  · simp
  · simp only [Function.comp]
    congr 1
    omega
theorem frzF_len (ρ : Fr) : (frzF ρ).length = ρ.length := frzN_len _ _
/-- lists of whole numbers drawn one by one -/
theorem ints_of_all {q : Int → Prop} : ∀ {xs : List D}, (∀ x ∈ xs, ∃ i, x = D.int i ∧ q i) → ∃ is : List Int, xs = is.map D.int ∧ ∀ i ∈ is, q i
  | [], _ => ⟨[], rfl, by simp⟩
  | x :: xs, h => by
    obtain ⟨i, rfl, hi⟩ := h x List.mem_cons_self
    obtain ⟨is, rfl, ha⟩ := ints_of_all fun y hy => h y (List.mem_cons_of_mem _ hy)
    exact ⟨i :: is, rfl, fun j hj => by
      rcases List.mem_cons.mp hj with rfl | hj
      · exact hi
      · exact ha j hj⟩
theorem of_all {α : Type} {f : α → D} {q : α → Prop} : ∀ {xs : List D}, (∀ x ∈ xs, ∃ i, x = f i ∧ q i) → ∃ is : List α, xs = is.map f ∧ ∀ i ∈ is, q i
  | [], _ => ⟨[], rfl, by simp⟩
  | x :: xs, h => by
    obtain ⟨i, rfl, hi⟩ := h x List.mem_cons_self
    obtain ⟨is, rfl, ha⟩ := of_all fun y hy => h y (List.mem_cons_of_mem _ hy)
    exact ⟨i :: is, rfl, fun j hj => by
      rcases List.mem_cons.mp hj with rfl | hj
      · exact hi
      · exact ha j hj⟩
end L2.Fl

namespace L2.Fl
open PySem PySem.Spec PyProof.Rows
/-! ### loops by what holds between two turns -/
theorem rangeL_at {lo : Int} {n k : Nat} {d : D} (h : (rangeL lo n)[k]? = some d) : k < n ∧ d = .int (lo + (k : Int)) := by
  simp only [rangeL, List.getElem?_map, Option.map_eq_some_iff] at h
  obtain ⟨i, h1, h2⟩ := h
  have hk : k < n := by
    have := List.getElem?_eq_some_iff.mp h1
    obtain ⟨h, _⟩ := this
    simpa using h
  rw [List.getElem?_range hk] at h1
  cases h1
  exact ⟨hk, h2.symm⟩
/-- range(lo, lo + n) -/
theorem forS_rng {t : TM} {s : SM} (I : Nat → Fr → W3 → Prop) {lo : Int} {n : Nat} {ρ : Fr} {ω : W3} (h0 : I 0 ρ ω)
    (hs : ∀ k ρ ω, k < n → I k ρ ω → ∃ ρ1 ρ2 ω2, t (.int (lo + (k : Int))) ρ = some ρ1 ∧ (s ρ1 ω = .nx ρ2 ω2 ∨ s ρ1 ω = .ct ρ2 ω2) ∧ I (k + 1) ρ2 ω2) :
    ∃ ρ' ω', forS t s (rangeL lo n) ρ ω = .nx ρ' ω' ∧ I n ρ' ω' := by
  obtain ⟨ρ', ω', e, h⟩ := forS_inv (t := t) (s := s) I (rangeL lo n) 0 ρ ω h0 (fun k d ρ ω hd hI => by
    obtain ⟨hk, rfl⟩ := rangeL_at hd
    rw [Nat.zero_add] at hI ⊢
    exact hs k ρ ω hk hI)
  rw [rangeL_len, Nat.zero_add] at h
  exact ⟨ρ', ω', e, h⟩
/-- range(n) -/
theorem forS_rg0 {t : TM} {s : SM} (I : Nat → Fr → W3 → Prop) {n : Nat} {ρ : Fr} {ω : W3} (h0 : I 0 ρ ω)
    (hs : ∀ k ρ ω, k < n → I k ρ ω → ∃ ρ1 ρ2 ω2, t (.int (k : Nat)) ρ = some ρ1 ∧ (s ρ1 ω = .nx ρ2 ω2 ∨ s ρ1 ω = .ct ρ2 ω2) ∧ I (k + 1) ρ2 ω2) :
    ∃ ρ' ω', forS t s (rangeL 0 n) ρ ω = .nx ρ' ω' ∧ I n ρ' ω' := forS_rng I h0 fun k ρ ω hk hI => by
  rw [Int.zero_add]
  exact hs k ρ ω hk hI
/-- a loop over told things -/
theorem forS_list {α : Type} {t : TM} {s : SM} (f : α → D) (I : List α → Fr → W3 → Prop) {xs : List α} {ρ : Fr} {ω : W3} (h0 : I [] ρ ω)
    (hs : ∀ pre a post ρ ω, xs = pre ++ a :: post → I pre ρ ω → ∃ ρ1 ρ2 ω2, t (f a) ρ = some ρ1 ∧ (s ρ1 ω = .nx ρ2 ω2 ∨ s ρ1 ω = .ct ρ2 ω2) ∧ I (pre ++ [a]) ρ2 ω2) :
    ∃ ρ' ω', forS t s (xs.map f) ρ ω = .nx ρ' ω' ∧ I xs ρ' ω' := by
  obtain ⟨ρ', ω', e, h⟩ := forS_inv (t := t) (s := s) (fun k ρ ω => I (xs.take k) ρ ω) (xs.map f) 0 ρ ω h0 (fun k d ρ ω hd hI => by
    rw [Nat.zero_add] at hI ⊢
    rw [List.getElem?_map, Option.map_eq_some_iff] at hd
    obtain ⟨a, h1, rfl⟩ := hd
    obtain ⟨hk, h2⟩ := List.getElem?_eq_some_iff.mp h1
    have e1 : xs = xs.take k ++ a :: xs.drop (k + 1) := by
      rw [← h2, ← List.drop_eq_getElem_cons hk, List.take_append_drop]
    obtain ⟨ρ1, ρ2, ω2, q1, q2, q3⟩ := hs _ a _ ρ ω e1 hI
    refine ⟨ρ1, ρ2, ω2, q1, q2, ?_⟩
    rw [List.take_add_one, h1]
    exact q3)
  rw [Nat.zero_add, List.length_map, List.take_length] at h
  exact ⟨ρ', ω', e, h⟩
theorem whileS_inv {t : EM Bool} {s : SM} (I : Nat → Fr → W3 → Prop) (E : Fr → W3 → Prop)
    (hs : ∀ m ρ ω, I m ρ ω → (∃ ρ' ω', t ρ ω = .ok false ρ' ω' ∧ E ρ' ω') ∨ (∃ ρ1 ω1 ρ2 ω2 m', t ρ ω = .ok true ρ1 ω1 ∧ (s ρ1 ω1 = .nx ρ2 ω2 ∨ s ρ1 ω1 = .ct ρ2 ω2) ∧ m' < m ∧ I m' ρ2 ω2)) :
    ∀ (fuel m : Nat) (ρ : Fr) (ω : W3), m < fuel → I m ρ ω → ∃ ρ' ω', whileS t s fuel ρ ω = .nx ρ' ω' ∧ E ρ' ω'
  | 0, m, ρ, ω, h, _ => absurd h (Nat.not_lt_zero _)
  | n + 1, m, ρ, ω, h, hI => by
    rcases hs m ρ ω hI with ⟨ρ', ω', e, he⟩ | ⟨ρ1, ω1, ρ2, ω2, m', e1, e2, hm, hI'⟩
    · exact ⟨ρ', ω', whileS_f e, he⟩
    · obtain ⟨ρ', ω', e3, h3⟩ := whileS_inv I E hs n m' ρ2 ω2 (by omega) hI'
      refine ⟨ρ', ω', ?_, h3⟩
      unfold whileS
      rcases e2 with e2 | e2 <;> simp only [e1, Out.stm, e2, e3]
/-- a comprehension with a test over what is told by a list of plain things -/
theorem lcv_filter {α : Type} {vs : List Nat} {it : EM (List D)} {t : TM} {tt : EM Bool} {te : EM D} {ρ : Fr} {ω ω1 : W3} {xs : List α} (p : α → Bool) (f g : α → D) (h : it ρ ω = .ok (xs.map f) ρ ω1) (hn : noOwn vs ρ = true) (hl : xs.length ≤ LIM)
    (he : ∀ a ∈ xs, ∃ ρ1, t (f a) (wipeF vs ρ) = some ρ1 ∧ tt ρ1 ω1 = .ok (p a) ρ1 ω1 ∧ (p a = true → te ρ1 ω1 = .ok (g a) ρ1 ω1) ∧ wipeF vs ρ1 = wipeF vs ρ) : lcM vs it t tt te ρ ω = .ok ((xs.filter p).map g) ρ ω1 := by
  have key : ∀ (xs : List α) (acc : List D), (∀ a ∈ xs, ∃ ρ1, t (f a) (wipeF vs ρ) = some ρ1 ∧ tt ρ1 ω1 = .ok (p a) ρ1 ω1 ∧ (p a = true → te ρ1 ω1 = .ok (g a) ρ1 ω1) ∧ wipeF vs ρ1 = wipeF vs ρ) → acc.length + xs.length ≤ LIM → compL vs t tt te (xs.map f) acc (wipeF vs ρ) ω1 = .ok (acc ++ (xs.filter p).map g) (wipeF vs ρ) ω1 := by
    intro xs
    induction xs with
    | nil => intro acc _ _; simp [compL]
    | cons a xs ih =>
      intro acc he hl
      obtain ⟨ρ1, e1, e2, e3, e4⟩ := he a List.mem_cons_self
      have hl' : acc.length + (xs.length + 1) ≤ LIM := by simpa using hl
      have hlt : acc.length < LIM := by omega
      rw [List.map_cons]
      unfold compL
      cases hp : p a with
      | true =>
        rw [hp] at e2
        simp only [e1, e2, Out.thenB, hlt, if_true, e3 hp, e4]
        rw [ih (acc ++ [g a]) (fun b hb => he b (List.mem_cons_of_mem _ hb)) (by simp; omega), List.filter_cons_of_pos hp]
        simp
      | false =>
        rw [hp] at e2
        simp only [e1, e2, Out.thenB, e4]
        rw [ih acc (fun b hb => he b (List.mem_cons_of_mem _ hb)) (by omega), List.filter_cons_of_neg (by simp [hp])]
  have := key xs [] he (by simpa using hl)
  rw [lcM_ok h hn this, rest_wipe]
  simp
theorem lcv_map1 {α : Type} {vs : List Nat} {it : EM (List D)} {t : TM} {te : EM D} {ρ : Fr} {ω ω1 : W3} {xs : List α} (f g : α → D) (h : it ρ ω = .ok (xs.map f) ρ ω1) (hn : noOwn vs ρ = true) (hl : xs.length ≤ LIM)
    (he : ∀ a ∈ xs, ∃ ρ1, t (f a) (wipeF vs ρ) = some ρ1 ∧ te ρ1 ω1 = .ok (g a) ρ1 ω1 ∧ wipeF vs ρ1 = wipeF vs ρ) : lcM vs it t yesT te ρ ω = .ok (xs.map g) ρ ω1 := lcv_map f g h hn hl fun a ha => by
  obtain ⟨ρ1, e1, e2, e3⟩ := he a ha
  exact ⟨ρ1, ρ1, e1, e2, e3⟩
/-- sum over a generator expression, over told things -/
theorem sumv_ok {α : Type} {vs : List Nat} {it : EM (List D)} {t : TM} {te : EM D} {ρ : Fr} {ω : W3} {xs : List α} (f : α → D) (p : α → Int) (h : it ρ ω = .ok (xs.map f) ρ ω) (hn : noOwn vs ρ = true)
    (he : ∀ d ∈ xs, ∃ ρ1, t (f d) (wipeF vs ρ) = some ρ1 ∧ te ρ1 ω = .ok (.int (p d)) ρ1 ω ∧ wipeF vs ρ1 = wipeF vs ρ) : sumM vs it t yesT te ρ ω = .ok (.int (xs.map p).sum) ρ ω := by
  have key : ∀ (ds : List α) (a : Int), (∀ d ∈ ds, ∃ ρ1, t (f d) (wipeF vs ρ) = some ρ1 ∧ te ρ1 ω = .ok (.int (p d)) ρ1 ω ∧ wipeF vs ρ1 = wipeF vs ρ) → foldG vs t yesT te sumF (ds.map f) a (wipeF vs ρ) ω = .ok (.inl (a + (ds.map p).sum)) (wipeF vs ρ) ω := by
    intro ds
    induction ds with
    | nil => intro a _; simp [foldG]
    | cons d ds ih =>
      intro a he
      obtain ⟨ρ1, e1, e2, e3⟩ := he d List.mem_cons_self
      simp only [List.map_cons, foldG, e1, yesT, Out.thenB, e2, sumF, e3, ih (a + p d) fun d' hd => he d' (List.mem_cons_of_mem _ hd), List.sum_cons, Int.add_assoc]
  unfold sumM foldM
  rw [h]
  simp only [Out.andThen, hn, if_true, key xs 0 he, Out.thenB, rest_wipe, endG, Int.zero_add]
/-- a row of drawn numbers -/
theorem rolls_ok {c i n : Nat} {m : Int} {it : EM (List D)} {ρ : Fr} {ω ω1 : W3} (h : it ρ ω = .ok (rangeL 0 n) ρ ω1) (hi : ρ[i]? = some (.val (.tok 0))) (hc : c ≠ i) (hn : isOwn ρ[c]? = false) (hl : n ≤ 1000) (h0 : 0 < m) (h1 : m < 1073741824) :
    ∃ (is : List Int) (ω' : W3), lcM [c] it (nmT c) yesT (callM fM_n_law_roll 2 (consM (vr i) (consM (kk (.int m)) nilM))) ρ ω = .ok (is.map D.int) ρ ω' ∧ is.length = n ∧ ∀ v ∈ is, 0 ≤ v ∧ v < m := by
  obtain ⟨xs, ω', e, hp, hlen⟩ := lc_roll (c := c) (te := callM fM_n_law_roll 2 (consM (vr i) (consM (kk (.int m)) nilM))) (fun d => ∃ v, d = D.int v ∧ (0 ≤ v ∧ v < m)) h hn (by rw [rangeL_len]; unfold LIM; omega) (fun d _ ω => by
    obtain ⟨v, ω3, e, a, b⟩ := roll_ok (i := i) (m := m) (ρ := ρ.set c (.val d)) (ω := ω) (by rw [List.getElem?_set_ne hc]; exact hi) h0 h1
    exact ⟨_, ω3, e, v, rfl, a, b⟩)
  obtain ⟨is, rfl, hq⟩ := ints_of_all hp
  refine ⟨is, ω', e, by simpa [rangeL_len] using hlen, hq⟩
theorem rangeL_nat (n : Nat) : rangeL 0 n = (List.range n).map fun (i : Nat) => D.int (i : Nat) := by
  simp [rangeL]
theorem andT_ok {f g : EM Bool} {ρ : Fr} {ω : W3} {a b : Bool} (h1 : f ρ ω = .ok a ρ ω) (h2 : a = true → g ρ ω = .ok b ρ ω) : andT f g ρ ω = .ok (a && b) ρ ω := by
  unfold andT
  rw [h1]
  cases a
  · rfl
  · simp only [Out.andThen, h2 rfl, Bool.true_and]
theorem orT_ok {f g : EM Bool} {ρ : Fr} {ω : W3} {a b : Bool} (h1 : f ρ ω = .ok a ρ ω) (h2 : a = false → g ρ ω = .ok b ρ ω) : orT f g ρ ω = .ok (a || b) ρ ω := by
  unfold orT
  rw [h1]
  cases a
  · simp only [Out.andThen, h2 rfl, Bool.false_or]
  · rfl
/-! all frozen -/
def frzS : Slot → Slot
  | .own d => .val d
  | s => s
theorem frzN_get : ∀ (n : Nat) (ρ : Fr) (i : Nat), (frzN n ρ)[i]? = if i < n then ρ[i]?.map frzS else ρ[i]?
  | 0, ρ, i => by simp [frzN]
  | n + 1, ρ, i => by
    have step : ∀ μ : Fr, (∀ k, k ≠ n → μ[k]? = ρ[k]?) → μ[n]? = ρ[n]?.map frzS → (frzN n μ)[i]? = if i < n + 1 then ρ[i]?.map frzS else ρ[i]? := fun μ h1 h2 => by
      rw [frzN_get n μ i]
      by_cases c : i < n
      · rw [if_pos c, if_pos (by omega), h1 i (by omega)]
      · rw [if_neg c]
        by_cases e : i = n
        · rw [if_pos (by omega), e, h2]
        · rw [if_neg (by omega), h1 i e]
    unfold frzN
    split
    · rename_i d e
      have hl : n < ρ.length := (List.getElem?_eq_some_iff.mp e).1
      refine step _ (fun k hk => List.getElem?_set_ne (fun z => hk z.symm)) ?_
      rw [List.getElem?_set_self hl, e]; rfl
    · rename_i hno
      refine step _ (fun _ _ => rfl) ?_
      cases e : ρ[n]? with
      | none => rfl
      | some s =>
        cases s with
        | own d => exact absurd e (hno d)
        | no => rfl
        | val d => rfl
theorem frzF_eq (ρ : Fr) : frzF ρ = ρ.map frzS := by
  refine List.ext_getElem? fun i => ?_
  unfold frzF
  rw [frzN_get, List.getElem?_map]
  by_cases h : i < ρ.length
  · rw [if_pos h]
  · rw [if_neg h, List.getElem?_eq_none (by omega)]; rfl
/-! going on behind a step -/
theorem nx_seq {s u : SM} {ρ ρ' : Fr} {ω ω' : W3} {R : SO → Prop} (h : s ρ ω = .nx ρ' ω') (k : R (u ρ' ω')) : R (seqS s u ρ ω) := by
  rw [seqS_nx h]; exact k
theorem nx_ex {s u : SM} {ρ : Fr} {ω : W3} {R : SO → Prop} {P : Fr → W3 → Prop} (h : ∃ ρ' ω', s ρ ω = .nx ρ' ω' ∧ P ρ' ω') (k : ∀ ρ' ω', P ρ' ω' → R (u ρ' ω')) : R (seqS s u ρ ω) := by
  obtain ⟨ρ', ω', e, hp⟩ := h
  exact nx_seq e (k ρ' ω' hp)
end L2.Fl

namespace L2.Fl
open PySem PySem.Spec PyProof.Rows
/-! ### list(range(n)), tuple(range(n)) -/
def rgD (a : D) : Option (List D) := match a with
  | .int j => if rgOk j && decide (j.toNat ≤ LIM) then some (rangeL 0 j.toNat) else none
  | _ => none
def rgTD (a : D) : Option D := match rgD a with
  | some xs => some (.tup xs)
  | none => none
section
variable {g : Gd} {X : Cx} {B : Bc} {e a : Expr} {fa : EM D} {p pos p2 pos2 : Pos}
def rRgL : V → Hp → VK → Prop := fun x H Q => ∃ n, x = .int n ∧ RgOk 0 n ∧ ∀ q, H q = none → Q (.ref q) (upd H q (.lst (rgV 0 n)))
def rRgT : V → Hp → VK → Prop := fun x H Q => ∃ n, x = .int n ∧ RgOk 0 n ∧ ∀ q, H q = none → Q (.ref q) (upd H q (.tup (rgV 0 n)))
theorem rds_rg {tk : Nat → Option V} {Z : Addr → Prop} {H : Hp} (n : Int) : RDs tk Z H (rangeL 0 n.toNat) (rgV 0 n) := by
  unfold rangeL rgV
  rw [Int.sub_zero]
  generalize List.range n.toNat = l
  induction l with
  | nil => exact .nil
  | cons i l ih => exact .cons (.int _) ih
theorem rgD_ok {a : D} {xs : List D} (h : rgD a = some xs) : ∃ n, a = .int n ∧ RgOk 0 n ∧ xs = rangeL 0 n.toNat := by
  unfold rgD at h
  split at h
  · rename_i j
    split at h
    · rename_i q
      rw [Bool.and_eq_true] at q
      obtain ⟨h1, h2⟩ := rgOk_ok q.1
      have h3 := of_decide_eq_true q.2
      unfold LIM at h3
      refine ⟨j, rfl, ⟨by omega, by omega, h1, h2, by omega⟩, (Option.some.inj h).symm⟩
    · cases h
  · cases h
theorem simF_rg : SimF1 g rRgL rgD := fun Z H ω x a ds Q G ra h hq => by
  obtain ⟨n, rfl, ok, rfl⟩ := rgD_ok h
  have := BR.int ra
  subst this
  exact ⟨n, rfl, ok, fun q hn => hq q _ hn (rds_rg n)⟩
theorem sim_rgT : Sim1 g rRgT rgTD := fun Z H ω x a d Q G ra h hq => by
  unfold rgTD at h
  cases e : rgD a with
  | none => rw [e] at h; cases h
  | some xs =>
    rw [e] at h
    cases h
    obtain ⟨n, rfl, ok, rfl⟩ := rgD_ok e
    have := BR.int ra
    subst this
    exact ⟨n, rfl, ok, fun q hn => hq _ _ _ (grow_new hn fix_tup) (rd_newT hn (rds_rg n))⟩
theorem fListRg (hc : X.calm = true) (hb : Bn X.mg) (ha : PE X a (RdB B fa)) (hg : Gl X "range" := by rfl) (hg2 : Gl X "list" := by rfl) (na : starEach [a] X.env = (false, eval a X.env) :: starEach [] X.env := by rfl)
    (na2 : starEach [.Call (.Name "range" p) [a] [] pos] X.env = (false, eval (.Call (.Name "range" p) [a] [] pos) X.env) :: starEach [] X.env := by rfl) :
    PE X (.Call (.Name "list" p2) [.Call (.Name "range" p) [a] [] pos] [] pos2) (RdF B (opF1 rgD fa)) :=
  f_op1 simF_rg (PE.imp (pe_listRg hc hg2 hb.list (prg_1 hg hb.range ha na) na2) fun σ H Q h => by
    unfold tLstRg tRg1
    have mono : ∀ (R1 R2 : V → Hp → Prop), (∀ x H, R1 x H → R2 x H) → RdB B fa σ H R1 → RdB B fa σ H R2 := fun R1 R2 i ⟨Z, ρ, ω, j, q⟩ => ⟨Z, ρ, ω, j, by
      cases ea : fa ρ ω with
      | bad => simp only [ea] at q
      | exc c ω' => simp only [ea] at q ⊢; exact q
      | ok d ρ1 ω1 => simp only [ea] at q ⊢; exact fun Z' v H' a1 a2 a3 a4 => i _ _ (q Z' v H' a1 a2 a3 a4)⟩
    exact mono _ _ (fun x H1 ⟨n, e, ok, q⟩ => ⟨n, e, ok, q⟩) h)
theorem eTupRg (hc : X.calm = true) (hb : Bn X.mg) (ha : PE X a (RdB B fa)) (hg : Gl X "range" := by rfl) (hg2 : Gl X "tuple" := by rfl) (na : starEach [a] X.env = (false, eval a X.env) :: starEach [] X.env := by rfl)
    (na2 : starEach [.Call (.Name "range" p) [a] [] pos] X.env = (false, eval (.Call (.Name "range" p) [a] [] pos) X.env) :: starEach [] X.env := by rfl) :
    PE X (.Call (.Name "tuple" p2) [.Call (.Name "range" p) [a] [] pos] [] pos2) (RdE B (op1 rgTD fa)) :=
  PE.imp (pe_tupRg hc hg2 hb.tuple (prg_1 hg hb.range ha na) na2) fun σ H Q h => by
    have h := i_op1 (B := B) (fa := fa) (sim_rgT (g := B.g)) σ H Q h
    obtain ⟨Z, ρ, ω, j, q⟩ := h
    refine ⟨Z, ρ, ω, j, ?_⟩
    cases ea : fa ρ ω with
    | bad => simp only [ea] at q
    | exc c ω' => simp only [ea] at q ⊢; exact q
    | ok d ρ1 ω1 =>
      simp only [ea] at q ⊢
      exact fun Z' v H' a1 a2 a3 a4 => q Z' v H' a1 a2 a3 a4
end
/-! ### xs.append(ys.pop()), xs.append(ys.pop(k)) -/
theorem RDs.eraseIdx {tk : Nat → Option V} {Z : Addr → Prop} {H : Hp} : ∀ {ds : List D} {vs : List V} (i : Nat), RDs tk Z H ds vs → RDs tk Z H (ds.eraseIdx i) (vs.eraseIdx i)
  | _, _, _, .nil => .nil
  | _, _, 0, .cons _ t => t
  | _, _, i + 1, .cons r t => .cons r (RDs.eraseIdx i t)
def appAt (i : Nat) (d : D) : SM := fun ρ ω => match ρ[i]? with
  | some (.own (.lst ds)) => if ds.length < LIM then .nx (ρ.set i (.own (.lst (ds ++ [d])))) ω else .bad
  | _ => .bad
def appPopS (i j : Nat) : SM := fun ρ ω => match ρ[i]? with
  | some (.own (.lst _)) => (match ρ[j]? with
    | some (.own (.lst es)) => (match es.getLast? with
      | some d => appAt i d (ρ.set j (.own (.lst es.dropLast))) ω
      | none => .bad)
    | _ => .bad)
  | _ => .bad
def appPopAtS (i j : Nat) (k : EM D) : SM := fun ρ ω => match ρ[i]? with
  | some (.own (.lst _)) => (match ρ[j]? with
    | some (.own (.lst _)) => (k ρ ω).stm fun n ρ ω => (match ρ[j]?, n with
      | some (.own (.lst es)), .int m => (match ixN es.length m with
        | some q => (match es[q]? with
          | some d => if es.length ≤ LIM then appAt i d (ρ.set j (.own (.lst (es.eraseIdx q)))) ω else .bad
          | none => .bad)
        | none => .bad)
      | _, _ => .bad)
    | _ => .bad)
  | _ => .bad
section
variable {X : Cx} {B : Bc} {o o2 e a : Expr} {pos apos cpos apos2 cpos2 : Pos} {st : Stmt}
theorem app_at {Z Z0 : Addr → Prop} {ρ : Fr} {σ : St} {H H0 : Hp} {ω : W3} {i : Nat} {d : D} {v : V} {p : Addr} {D : Ends} (j : J B Z ρ σ H ω) (k0 : Kp Z0 H0 Z H) (hσ : σ[i]? = some (some (.ref p))) (r : RD B.g.tk Z H d v) (q : Post B D Z0 H0 (appAt i d ρ ω)) :
    rAppend (.ref p) [v] H fun x H' => D.nx σ H' := by
  unfold appAt at q
  split at q
  · rename_i ds ei
    by_cases hl : ds.length < LIM
    · rw [if_pos hl] at q
      obtain ⟨p', vs, g1, g2, g3, g4⟩ := j.lstAt ei
      rw [hσ] at g1
      cases g1
      exact ⟨p, vs, v, rfl, rfl, g2, by rw [← g3.length, ← lim_eq]; exact hl, q Z σ _ (k0.trans (kp_upd g4)) (j.mut ei hσ (.lst upd_same ((g3.append (.cons r .nil)).upd g4)) fix_lst)⟩
    · rw [if_neg hl] at q; exact q.elim
  · exact q.elim
theorem s_appPop {i jj : Nat} (h : PS X st (tDrop (tBM X.K "list" rAppend (tVar i) (tCons (tBM0 X.K "list" rPop (tVar jj)) tNil)))) : PS X st (RdS B (appPopS i jj)) := PS.imp h fun D σ H ⟨Z, ρ, ω, j, q⟩ => by
  unfold appPopS at q
  split at q
  · rename_i ds0 ei
    obtain ⟨p, vs0, h1, h2, h3, h4⟩ := j.lstAt ei
    refine ⟨.ref p, h1, .inl ⟨rfl, _, SqL.of h2⟩, ?_⟩
    split at q
    · rename_i es ej
      split at q
      · rename_i d ed
        obtain ⟨p2, ws, k1, k2, k3, k4⟩ := j.lstAt ej
        obtain ⟨v, g1, g2⟩ := k3.get (last_at ed)
        refine ⟨.ref p2, k1, .inl ⟨rfl, _, SqL.of k2⟩, p2, ws, v, rfl, rfl, k2, by rw [← k3.length]; exact g1, ?_⟩
        exact app_at (j.mut (d' := .lst es.dropLast) (o := .lst ws.dropLast) ej k1 (.lst upd_same (k3.dropLast.upd k4)) fix_lst) (kp_upd k4) h1 (g2.upd k4) q
      · exact q.elim
    · exact q.elim
  · exact q.elim
theorem s_appPopAt {i jj : Nat} {k : EM D} (h : PS X st (tDrop (tBM X.K "list" rAppend (tVar i) (tCons (tBM X.K "list" rPopAt (tVar jj) (tCons (RdE B k) tNil)) tNil)))) : PS X st (RdS B (appPopAtS i jj k)) := PS.imp h fun D σ H ⟨Z, ρ, ω, j, q⟩ => by
  unfold appPopAtS at q
  split at q
  · rename_i ds0 ei
    obtain ⟨p, vs0, h1, h2, h3, h4⟩ := j.lstAt ei
    refine ⟨.ref p, h1, .inl ⟨rfl, _, SqL.of h2⟩, ?_⟩
    split at q
    · rename_i es0 ej0
      obtain ⟨p2, ws0, k1, k2, _, _⟩ := j.lstAt ej0
      refine ⟨.ref p2, k1, .inl ⟨rfl, _, SqL.of k2⟩, Z, ρ, ω, j, ?_⟩
      cases ea : k ρ ω with
      | bad => simp only [ea, Out.stm] at q; exact q
      | exc c ω' => simp only [ea, Out.stm] at q; exact q
      | ok n ρ1 ω1 =>
        simp only [ea, Out.stm] at q
        intro Z1 w H1 e1 z1 j1 r1
        split at q
        · rename_i es m ej
          split at q
          · rename_i qq eq
            split at q
            · rename_i d ed
              split at q
              · rename_i hl
                obtain ⟨p3, ws, k5, k6, k7, k8⟩ := j1.lstAt ej
                rw [k1] at k5
                cases k5
                have := BR.int (g := B.g) (.inl r1)
                subst this
                obtain ⟨v, g1, g2⟩ := k7.get ed
                obtain ⟨s1, s2, s3, s4⟩ := ixN_seq eq
                have hl' : es.length ≤ 16777216 := hl
                refine ⟨p2, ws, m, qq, v, rfl, rfl, k6, by omega, by omega, by rw [← k7.length]; exact s1, g1, ?_⟩
                exact app_at (j1.mut (d' := .lst (es.eraseIdx qq)) (o := .lst (ws.eraseIdx qq)) ej k1 (.lst upd_same ((k7.eraseIdx qq).upd k8)) fix_lst) ((Kp.of j.good z1 e1).trans (kp_upd k8)) h1 (g2.upd k8) q
              · exact q.elim
            · exact q.elim
          · exact q.elim
        · exact q.elim
    · exact q.elim
  · exact q.elim
theorem sAppPop {i j : Nat} (ho : PE X o (tVar i)) (ho2 : PE X o2 (tVar j)) (hbase : attributeBase o "append" X.env (eval o X.env) = eval o X.env := by rfl)
    (hbase2 : attributeBase o2 "pop" X.env (eval o2 X.env) = eval o2 X.env := by rfl) (hline2 : (apos2.endLine == cpos2.line) = true := by rfl)
    (hfew : ((backTo cpos (starEach [.Call (.Attribute o2 "pop" apos2) [] [] cpos2] X.env)).all (fun x => !x.1) && (backToKw cpos (keywordEach [] X.env)).all (fun x => x.1.isSome)
      && decide (([.Call (.Attribute o2 "pop" apos2) [] [] cpos2] : List Expr).length + ([] : List Keyword).length + (if ([] : List Keyword).isEmpty then 0 else 1) < 30)) = true := by rfl)
    (hline : (apos.endLine == cpos.line) = true := by rfl) (hs : starEach [.Call (.Attribute o2 "pop" apos2) [] [] cpos2] X.env = (false, eval (.Call (.Attribute o2 "pop" apos2) [] [] cpos2) X.env) :: starEach [] X.env := by rfl) (hplain : (backTo cpos (starEach [] X.env)).any (·.1) = false := by rfl)
    (hsw : swapsWith (.Call (.Attribute o "append" apos) [.Call (.Attribute o2 "pop" apos2) [] [] cpos2] [] cpos) none pos.line X.env = pure false := by rfl) :
    PS X (.Expr (.Call (.Attribute o "append" apos) [.Call (.Attribute o2 "pop" apos2) [] [] cpos2] [] cpos) pos) (RdS B (appPopS i j)) :=
  s_appPop (ps_expr (pe_bm PySem.F.plainAttrs_list PySem.F.slot_list_append PySem.F.type_list_append mt_append ho (pa_cons (pe_bm0 PySem.F.plainAttrs_list PySem.F.slot_list_pop PySem.F.type_list_pop mt_pop ho2 hbase2 hline2) pa_nil hs) hbase hfew hline hs hplain) hsw)
theorem sAppPopAt {i j : Nat} {k : EM D} (ho : PE X o (tVar i)) (ho2 : PE X o2 (tVar j)) (hk : PE X a (RdE B k)) (hbase : attributeBase o "append" X.env (eval o X.env) = eval o X.env := by rfl)
    (hbase2 : attributeBase o2 "pop" X.env (eval o2 X.env) = eval o2 X.env := by rfl) (hline2 : (apos2.endLine == cpos2.line) = true := by rfl)
    (hfew2 : ((backTo cpos2 (starEach [a] X.env)).all (fun x => !x.1) && (backToKw cpos2 (keywordEach [] X.env)).all (fun x => x.1.isSome)
      && decide (([a] : List Expr).length + ([] : List Keyword).length + (if ([] : List Keyword).isEmpty then 0 else 1) < 30)) = true := by rfl)
    (hs2 : starEach [a] X.env = (false, eval a X.env) :: starEach [] X.env := by rfl) (hplain2 : (backTo cpos2 (starEach [] X.env)).any (·.1) = false := by rfl)
    (hfew : ((backTo cpos (starEach [.Call (.Attribute o2 "pop" apos2) [a] [] cpos2] X.env)).all (fun x => !x.1) && (backToKw cpos (keywordEach [] X.env)).all (fun x => x.1.isSome)
      && decide (([.Call (.Attribute o2 "pop" apos2) [a] [] cpos2] : List Expr).length + ([] : List Keyword).length + (if ([] : List Keyword).isEmpty then 0 else 1) < 30)) = true := by rfl)
    (hline : (apos.endLine == cpos.line) = true := by rfl) (hs : starEach [.Call (.Attribute o2 "pop" apos2) [a] [] cpos2] X.env = (false, eval (.Call (.Attribute o2 "pop" apos2) [a] [] cpos2) X.env) :: starEach [] X.env := by rfl) (hplain : (backTo cpos (starEach [] X.env)).any (·.1) = false := by rfl)
    (hsw : swapsWith (.Call (.Attribute o "append" apos) [.Call (.Attribute o2 "pop" apos2) [a] [] cpos2] [] cpos) none pos.line X.env = pure false := by rfl) :
    PS X (.Expr (.Call (.Attribute o "append" apos) [.Call (.Attribute o2 "pop" apos2) [a] [] cpos2] [] cpos) pos) (RdS B (appPopAtS i j k)) :=
  s_appPopAt (ps_expr (pe_bm PySem.F.plainAttrs_list PySem.F.slot_list_append PySem.F.type_list_append mt_append ho (pa_cons (pe_bm PySem.F.plainAttrs_list PySem.F.slot_list_pop PySem.F.type_list_pop mt_popAt ho2 (pa_cons hk pa_nil hs2) hbase2 hfew2 hline2 hs2 hplain2) pa_nil hs) hbase hfew hline hs hplain) hsw)
end
/-! enumerate of what is but read, in a comprehension's head -/
section
variable {B : Bc} {K : PySem.W.Frag} {X : Cx} {tg iter : Expr}
theorem w_enumB {f : EM D} (h : PI X tg iter (iEnumA K (RdB B f))) : PI X tg iter (RdIB B (enumM f)) := PI.imp h fun σ H R ⟨Z, ρ, ω, j, q⟩ => by
  refine ⟨Z, ρ, ω, j, ?_⟩
  unfold enumM at q
  cases ea : f ρ ω with
  | bad => simp only [ea, Out.andThen] at q
  | exc c ω' => simp only [ea, Out.andThen] at q; exact q
  | ok d ρ1 ω1 =>
    simp only [ea, Out.andThen, optM] at q
    intro Z1 v H1 e1 z1 j1 r1
    cases d with
    | lst ds =>
      simp only [items?] at q
      have np : ∃ p vs, v = .ref p ∧ H1 p = some (.lst vs) ∧ RDs B.g.tk Z1 H1 ds vs ∧ B.g.pd ≠ some p := by
        rcases r1 with r1 | ⟨p, rfl, n, ro⟩
        · cases r1 with
          | obj zp ro =>
            cases ro with
            | lst hp rs => exact ⟨_, _, rfl, hp, rs, (j1.good.zs _ zp).1⟩
        · cases ro with
          | lst hp rs => exact ⟨_, _, rfl, hp, rs, n⟩
      obtain ⟨p, vs, rfl, hp, rs, n⟩ := np
      exact ⟨_, rfl, _, rfl, .inl ⟨⟨_, SqL.of hp⟩, q Z1 H1 _ e1 z1 j1 (wk_enum rs.length ⟨_, walk_enum, fun Z H r => SqL.of (r.2.keep _ _ hp n fix_lst)⟩ fun Z H r => rs.kp r.1)⟩⟩
    | tup ds =>
      simp only [items?] at q
      obtain ⟨p, vs, rfl, hp, rs⟩ := r1.tup
      exact ⟨_, rfl, _, rfl, .inr ⟨⟨_, SqT.of hp⟩, q Z1 H1 _ e1 z1 j1 (wk_enum rs.length ⟨_, walk_enumT, fun Z H r => SqT.of (r.1.keep _ _ (.inr ⟨_, hp⟩) hp)⟩ fun Z H r => rs.kp r.1)⟩⟩
    | ptup ds =>
      simp only [items?] at q
      obtain ⟨p, vs, o, rfl, zp, hp, nd, rs⟩ := r1.ptup
      exact ⟨_, rfl, _, rfl, .inr ⟨⟨_, SqT.fz hp⟩, q Z1 H1 _ e1 z1 j1 (wk_enum rs.length ⟨_, walk_enumT, fun Z H r => SqT.fz (r.1.keep _ _ (.inl zp) hp)⟩ fun Z H r => rs.kp r.1)⟩⟩
    | _ => simp only [items?] at q
end
end L2.Fl

namespace L2.Fl
open PySem PySem.Spec PyProof.Rows
/-! ### a tuple that is known to have no dict of its own: tuple(xs) of a list; its comparison with a text; its count -/
theorem fix_frz {o : Obj} {u : HO} : Fix (.frz o u) := fun _ h => by cases h
def ptupD (a : D) : Option D := match a with
  | .lst xs => some (.ptup xs)
  | _ => none
section
variable {g : Gd} {X : Cx} {B : Bc} {e a b o : Expr} {fa fb : EM D} {p pos apos cpos : Pos} {k : Nat}
def rPt (K : PySem.W.Frag) : V → Hp → VK → Prop := r1c fun xs H Q => ∃ p ys, xs = [.ref p] ∧ SqL K H p ys ∧ ∀ l o, H l = none → o.dict = none → Q (.ref l) (upd H l (.frz o (.tup ys)))
theorem call_ptuple : CallR X (.type "tuple") (fun xs H Q => ∃ p ys, xs = [.ref p] ∧ SqL X.K H p ys ∧ ∀ l o, H l = none → o.dict = none → Q (.ref l) (upd H l (.frz o (.tup ys)))) := by
  intro pins s σ H xs us Q I r h
  obtain ⟨p, ys, rfl, hq, q⟩ := h
  obtain ⟨u, rfl, rx⟩ := vals1 r
  cases rx
  obtain ⟨its, r', pl, hz⟩ := I.list hq
  have hlen := r'.length
  refine call_tuple_list pl.isList (fun h' kp => ?_) (by have := sizeLine_eq; simp only [List.size_toArray] <;> omega)
  have I1 : Inv X pins σ H { s with heap := h' } := I.kept (t' := s.toks) kp
  have I2 : Inv X pins σ (upd H h'.objs.size (.frz { cls := .type "tuple", data := .seq its.toArray } (.tup ys))) { s with heap := h'.push { cls := .type "tuple", data := .seq its.toArray } } :=
    I1.laid (t' := s.toks) (fun b o e => Heap.get?_push_of_some _ e) (Nat.le_refl _) ⟨Heap.get?_push_size _ rfl, show ObjOk X.prog X.w _ _ _ (.tup ys) from ⟨hz, its, r', IsTup.new _ _⟩⟩
  exact ⟨.ref h'.objs.size, _, I2, rfl, q _ _ (I1.hok.fresh (Nat.le_refl _)) rfl⟩
theorem sim_ptup {K : PySem.W.Frag} : Sim1 g (rPt K) ptupD := fun Z H ω x a d Q G ra h hq => by
  unfold ptupD at h
  split at h
  · cases h
    obtain ⟨p, vs, rfl, hp, r1⟩ := ra.lst
    exact ⟨p, vs, rfl, SqL.of hp, fun l o hl nd => hq _ _ _ (grow_new hl fix_frz) (.ptup (.inr rfl) upd_same nd (r1.grow (grow_new (g := g) hl fix_frz)))⟩
  · cases h
theorem ePTuple (hb : Bn X.mg) (ha : PE X a (RdB B fa)) (hg : Gl X "tuple" := by rfl) (he : starEach [a] X.env = (false, eval a X.env) :: starEach [] X.env := by rfl) (hpl : (backTo pos (starEach [] X.env)).any (·.1) = false := by rfl) :
    PE X (.Call (.Name "tuple" p) [a] [] pos) (RdE B (op1 ptupD fa)) := m_op1 sim_ptup (fun ta ha => pe_callTy call_ptuple hg hb.tuple (by decide +kernel) (pa_cons ha pa_nil he) (he := he) (hpl := hpl)) ha
/-! == and != of such a tuple and a text -/
theorem ptup_dp {K : PySem.W.Frag} {Z : Addr → Prop} {H : Hp} {xs : List D} {v : V} {n : Nat} (r : BR g Z H (.ptup xs) v) (h : okDs xs n = true) : Dp K H v (.tuple (pDs xs)) := by
  obtain ⟨p, vs, o, rfl, zp, hp, nd, r1⟩ := r.ptup
  exact .tup (SqT.fz hp) (RDs.dp r1 h)
def eqPD (a b : D) : Option D := match a, b with
  | .ptup xs, .str s => if okDs xs 8 && okD (.str s) 8 then some (.bl false) else none
  | a, b => eqD a b
def nePD (a b : D) : Option D := match a, b with
  | .ptup xs, .str s => if okDs xs 8 && okD (.str s) 8 then some (.bl true) else none
  | a, b => neD a b
theorem sim_eqP {K : PySem.W.Frag} : Sim2 g (rEqD K) eqPD := fun Z H ω x y a b d Q G ra rb h hq => by
  unfold eqPD at h
  split at h
  · rename_i xs s
    split at h
    · rename_i q
      rw [Bool.and_eq_true] at q
      cases h
      refine ⟨_, _, ptup_dp (K := K) ra q.1, rb.dp (n := 8) q.2, okD_shaped (d := .tup xs) (n := 9) (by simp only [okD]; exact q.1) (by decide), okD_shaped (d := .str s) (n := 8) q.2 (by decide), ?_⟩
      have e : PyData.eqv (.tuple (pDs xs)) (pD (.str s)) = false := by simp only [pD, PyData.eqv]
      rw [e]
      exact hq Z _ H .refl (.bl false)
    · cases h
  · exact sim_eq Z H ω x y _ _ d Q G ra rb h hq
theorem sim_neP {K : PySem.W.Frag} : Sim2 g (rNeD K) nePD := fun Z H ω x y a b d Q G ra rb h hq => by
  unfold nePD at h
  split at h
  · rename_i xs s
    split at h
    · rename_i q
      rw [Bool.and_eq_true] at q
      cases h
      refine ⟨_, _, ptup_dp (K := K) ra q.1, rb.dp (n := 8) q.2, okD_shaped (d := .tup xs) (n := 9) (by simp only [okD]; exact q.1) (by decide), okD_shaped (d := .str s) (n := 8) q.2 (by decide), ?_⟩
      have e : PyData.eqv (.tuple (pDs xs)) (pD (.str s)) = false := by simp only [pD, PyData.eqv]
      rw [e]
      exact hq Z _ H .refl (.bl true)
    · cases h
  · exact sim_ne Z H ω x y _ _ d Q G ra rb h hq
theorem tEqP (hr : Room k X.A) (ha : PE X a (RdB B fa)) (hb : PE X b (RdB B fb)) : PT X (.Compare a [.Eq] [b] pos) (RdT B (asB (op2 eqPD fa fb))) := m_tcmp sim_eqP (op_eqD (room64 hr)) ha hb (nomark _)
theorem tNeP (hr : Room k X.A) (ha : PE X a (RdB B fa)) (hb : PE X b (RdB B fb)) : PT X (.Compare a [.NotEq] [b] pos) (RdT B (asB (op2 nePD fa fb))) := m_tcmp sim_neP (op_neD (room64 hr)) ha hb (nomark _)
theorem eEqP (hr : Room k X.A) (ha : PE X a (RdB B fa)) (hb : PE X b (RdB B fb)) : PE X (.Compare a [.Eq] [b] pos) (RdE B (op2 eqPD fa fb)) := m_cmp sim_eqP (op_eqD (room64 hr)) ha hb (nomark _)
theorem eNeP (hr : Room k X.A) (ha : PE X a (RdB B fa)) (hb : PE X b (RdB B fb)) : PE X (.Compare a [.NotEq] [b] pos) (RdE B (op2 nePD fa fb)) := m_cmp sim_neP (op_neD (room64 hr)) ha hb (nomark _)
/-! xs.count(y) -/
def cntLD (a b : D) : Option D := match a with
  | .lst xs => if okDs xs 8 && okD b 8 then some (.int ((xs.countP fun z => eqd z b : Nat) : Int)) else none
  | _ => none
def cntTD (a b : D) : Option D := match a with
  | .ptup xs => if okDs xs 8 && okD b 8 then some (.int ((xs.countP fun z => eqd z b : Nat) : Int)) else none
  | _ => none
theorem countP_eqd {a : D} {n : Nat} (ha : okD a n = true) : ∀ {xs : List D} {m : Nat}, okDs xs m = true → ((pDs xs).countP fun z => PyData.eqv z (pD a)) = xs.countP fun z => eqd z a
  | [], _, _ => rfl
  | x :: xs, m, h => by
    simp only [okDs, Bool.and_eq_true] at h
    simp only [pDs, List.countP_cons, countP_eqd ha h.2, eqd_eqv x a m n h.1 ha]
def rCntL (K : PySem.W.Frag) : V → List V → Hp → VK → Prop := fun x xs H Q => ∃ (y : V) (d : PyData) (ds : List PyData), xs = [y] ∧ Dp K H x (.list ds) ∧ Dp K H y d ∧ SeqAt.shaped (.list ds) = true ∧ SeqAt.shaped d = true ∧ Q (.int ((ds.countP fun z => PyData.eqv z d : Nat) : Int)) H
def rCntT (K : PySem.W.Frag) : V → List V → Hp → VK → Prop := fun x xs H Q => ∃ (y : V) (d : PyData) (ds : List PyData), xs = [y] ∧ Dp K H x (.tuple ds) ∧ Dp K H y d ∧ SeqAt.shaped (.list ds) = true ∧ SeqAt.shaped d = true ∧ Q (.int ((ds.countP fun z => PyData.eqv z d : Nat) : Int)) H
theorem mt_countL (hu : X.A.units + 65 < cLine) : MtR X "list.count" (rCntL X.K) := by
  intro pins s σ H x xs v us Q I rx rxs h
  obtain ⟨y, d, ds, rfl, hl, hy, sl, sd, q⟩ := h
  cases rxs with
  | cons ry rt =>
    rename_i uy ut
    cases rt
    obtain ⟨bs, r1⟩ := Dp.reads I d y uy hy ry
    have hxs : PyData.canLayAll0 ds = true := SeqAt.canLay_of_shaped sl
    have hroom : X.A.units + 1 + min (PyData.depthAll ds) d.depth < cLine := room_in_shaped sd hu
    cases hl with
    | lst hs ha =>
      cases rx
      obtain ⟨its, rv, ⟨⟨cls, dd, data, sls⟩, n, ho, hc, hdn, hdt⟩, hlen⟩ := I.list hs
      simp only at hc hdt
      subst hc hdt
      obtain ⟨as, h4⟩ := Dp.readsAll I ds _ its ha rv
      have hmap : its.map (SeqAt.readOf s.heap) = ds := SeqAt.readsAll_map ds its as hxs h4
      refine call_meets PySem.F.slot_list_count ⟨_, ho, rfl⟩ PySem.F.entry_list_count (PySem.F.args_list_count_2 _ _)
        (SeqAt.list_countAt _ its.toArray n dd sls uy (fun u => PyData.eqv (SeqAt.readOf s.heap u) d)) ⟨ho, SeqAt.items_eqAt (vs := its.toArray) (show ReadsAll s.heap its.toArray.toList ds as from h4) r1 hxs (SeqAt.canLay_of_shaped sd) hroom, ?_⟩
      have e : its.toArray.toList.countP (fun u => PyData.eqv (SeqAt.readOf s.heap u) d) = ds.countP fun z => PyData.eqv z d := by
        rw [← hmap, List.countP_map]; rfl
      rw [e]
      exact ⟨.int _, H, I.tok _, ⟨_, rfl⟩, q⟩
theorem mt_countT (hu : X.A.units + 65 < cLine) : MtR X "tuple.count" (rCntT X.K) := by
  intro pins s σ H x xs v us Q I rx rxs h
  obtain ⟨y, d, ds, rfl, hl, hy, sl, sd, q⟩ := h
  cases rxs with
  | cons ry rt =>
    rename_i uy ut
    cases rt
    obtain ⟨bs, r1⟩ := Dp.reads I d y uy hy ry
    have hxs : PyData.canLayAll0 ds = true := SeqAt.canLay_of_shaped sl
    have hroom : X.A.units + 1 + min (PyData.depthAll ds) d.depth < cLine := room_in_shaped sd hu
    cases hl with
    | tup hs ha =>
      cases rx
      obtain ⟨its, rv, ⟨⟨cls, dd, data, sls⟩, ho, hc, n, hdt⟩, hlen⟩ := I.tuple hs
      simp only at hc hdt
      subst hc hdt
      obtain ⟨as, h4⟩ := Dp.readsAll I ds _ its ha rv
      have hmap : its.map (SeqAt.readOf s.heap) = ds := SeqAt.readsAll_map ds its as hxs h4
      refine call_meets PySem.F.slot_tuple_count ⟨_, ho, rfl⟩ PySem.F.entry_tuple_count (PySem.F.args_tuple_count_2 _ _)
        (SeqAt.tuple_countAt _ its.toArray n dd sls uy (fun u => PyData.eqv (SeqAt.readOf s.heap u) d)) ⟨ho, SeqAt.items_eqAt (vs := its.toArray) (show ReadsAll s.heap its.toArray.toList ds as from h4) r1 hxs (SeqAt.canLay_of_shaped sd) hroom, ?_⟩
      have e : its.toArray.toList.countP (fun u => PyData.eqv (SeqAt.readOf s.heap u) d) = ds.countP fun z => PyData.eqv z d := by
        rw [← hmap, List.countP_map]; rfl
      rw [e]
      exact ⟨.int _, H, I.tok _, ⟨_, rfl⟩, q⟩
def tyP (x : V) (H : Hp) : Prop := ∃ p o ys, x = .ref p ∧ H p = some (.frz o (.tup ys)) ∧ o.dict = none
def tBP (r : V → List V → Hp → VK → Prop) (to : TE) (t : TA) : TE := fun σ H Q => to σ H fun x H1 => tyP x H1 ∧ t σ H1 fun xs H2 => r x xs H2 Q
/-- a method of such a tuple -/
theorem pe_bmP {es : List Expr} {to : TE} {t : TA} {name : Str} {id : String} {r : V → List V → Hp → VK → Prop} (slot : PySem.Slot "tuple" name id) (hty : typeOf (.builtin id) = pure (.type "method_descriptor")) (hm : MtR X id r) (ho : PE X o to) (ha : PA X (e :: es) t)
    (hbase : attributeBase o name X.env (eval o X.env) = eval o X.env := by rfl)
    (hfew : ((backTo cpos (starEach (e :: es) X.env)).all (fun x => !x.1) && (backToKw cpos (keywordEach [] X.env)).all (fun x => x.1.isSome)
      && decide ((e :: es).length + ([] : List Keyword).length + (if ([] : List Keyword).isEmpty then 0 else 1) < 30)) = true := by rfl)
    (hline : (apos.endLine == cpos.line) = true := by rfl) (hs : starEach (e :: es) X.env = (false, eval e X.env) :: starEach es X.env := by rfl) (hplain : (backTo cpos (starEach es X.env)).any (·.1) = false := by rfl) :
    PE X (.Call (.Attribute o name apos) (e :: es) [] cpos) (tBP r to t) := by
  refine ⟨fun pins s σ H Q I h => ?_⟩
  refine wpAny_Call_method_late hbase hfew hline rfl (thn (ho.run pins s σ H _ I h) fun v s1 ⟨x, H1, I1, r1, ty, q1⟩ => ?_)
  obtain ⟨p, ob, ys, rfl, hp, nd⟩ := ty
  obtain ⟨e1, e2⟩ := I1.hok p _ hp
  obtain ⟨_, _, _, ⟨o2, e3, hc, _⟩⟩ := e2
  rw [e1] at e3
  cases e3
  cases r1
  refine ⟨"tuple", id, PySem.F.plainAttrs_tuple, slot, hty, ⟨ob, e1, hc⟩, fun a ha => (by cases ha; exact ⟨ob, e1, nd⟩), ?_⟩
  have hA := ha.run cpos pins s1 σ H1 _ I1 q1
  rw [hs] at hA ⊢
  refine Calls.callWith_builtin (by show (false || (backTo cpos (starEach es X.env)).any (·.1)) = false; rw [hplain] <;> rfl) (Calls.evalArgs_plain ?_)
  exact thn hA fun us s2 ⟨vs, H2, I2, r2, q2⟩ => hm pins s2 σ H2 (.ref p) vs _ _ Q I2 rfl r2 q2
/-- a method of one argument: what it is asked of is looked at ahead of the argument -/
def cntM (chk : D → Bool) (f : D → D → Option D) (fa fb : EM D) : EM D := fun ρ ω => (fa ρ ω).andThen fun x ρ ω => match chk x with
  | true => (fb ρ ω).andThen fun y => optM (f x y)
  | false => .bad
theorem i_cnt {chk : D → Bool} {f : D → D → Option D} {ty : V → Hp → Prop} {r : V → List V → Hp → VK → Prop} (h1 : ∀ Z H a x, chk a = true → BR B.g Z H a x → ty x H)
    (h2 : ∀ Z H a b d x y (Q : VK), BR B.g Z H a x → BR B.g Z H b y → f a b = some d → ∃ n, d = .int n ∧ (Q (.int n) H → r x [y] H Q)) :
    ∀ σ H Q, RdE B (cntM chk f fa fb) σ H Q → RdB B fa σ H fun x H1 => ty x H1 ∧ tCons (RdB B fb) tNil σ H1 fun xs H2 => r x xs H2 Q := fun σ H Q ⟨Z, ρ, ω, j, h⟩ => by
  refine ⟨Z, ρ, ω, j, ?_⟩
  unfold cntM at h
  cases ea : fa ρ ω with
  | bad => simp only [ea, Out.andThen] at h
  | exc c ω' => simp only [ea, Out.andThen] at h; exact h
  | ok d ρ1 ω1 =>
    simp only [ea, Out.andThen, optM] at h
    intro Z1 x H1 e1 z1 j1 r1
    cases hk : chk d with
    | false => simp only [hk] at h
    | true =>
      simp only [hk] at h
      refine ⟨h1 Z1 H1 d x hk r1, Z1, ρ1, ω1, j1, ?_⟩
      cases eb : fb ρ1 ω1 with
      | bad => simp only [eb] at h
      | exc c ω' => simp only [eb] at h; exact h
      | ok d2 ρ2 ω2 =>
        simp only [eb] at h
        intro Z2 y H2 e2 z2 j2 r2
        cases ef : f d d2 with
        | none => simp only [ef] at h
        | some u =>
          simp only [ef] at h
          obtain ⟨n, rfl, hr⟩ := h2 Z2 H2 d d2 u x y Q (r1.ext j1.good z2 e2) r2 ef
          exact hr (h Z2 _ H2 (e1.trans e2) (fun p z => z2 p (z1 p z)) j2 (.int n))
def isLst : D → Bool
  | .lst _ => true
  | _ => false
def isPt : D → Bool
  | .ptup _ => true
  | _ => false
theorem eCountL (hr : Room k X.A) (ho : PE X o (RdB B fa)) (ha : PE X a (RdB B fb)) (hbase : attributeBase o "count" X.env (eval o X.env) = eval o X.env := by rfl)
    (hfew : ((backTo cpos (starEach [a] X.env)).all (fun x => !x.1) && (backToKw cpos (keywordEach [] X.env)).all (fun x => x.1.isSome)
      && decide (([a] : List Expr).length + ([] : List Keyword).length + (if ([] : List Keyword).isEmpty then 0 else 1) < 30)) = true := by rfl)
    (hline : (apos.endLine == cpos.line) = true := by rfl) (hs : starEach [a] X.env = (false, eval a X.env) :: starEach [] X.env := by rfl) (hplain : (backTo cpos (starEach [] X.env)).any (·.1) = false := by rfl) :
    PE X (.Call (.Attribute o "count" apos) [a] [] cpos) (RdE B (cntM isLst cntLD fa fb)) :=
  PE.imp (pe_bm PySem.F.plainAttrs_list PySem.F.slot_list_count PySem.F.type_list_count (mt_countL (room65 hr)) ho (pa_cons ha pa_nil hs) hbase hfew hline hs hplain)
    (i_cnt (ty := tyV X.K "list") (fun Z H d x hk r => by
      cases d with
      | lst xs =>
        obtain ⟨p, vs, rfl, hp, _⟩ := r.lst
        exact .inl ⟨rfl, _, SqL.of hp⟩
      | _ => cases hk) (fun Z H d d2 u x y Q ra rb h => by
      unfold cntLD at h
      split at h
      · rename_i xs
        split at h
        · rename_i q
          rw [Bool.and_eq_true] at q
          cases h
          refine ⟨_, rfl, fun hq => ⟨y, pD d2, pDs xs, rfl, ra.dp (d := .lst xs) (n := 9) (by simp only [okD]; exact q.1), rb.dp q.2, shaped_items q.1, okD_shaped q.2 (by decide), ?_⟩⟩
          rw [countP_eqd q.2 q.1]; exact hq
        · cases h
      · cases h))
theorem eCountT (hr : Room k X.A) (ho : PE X o (RdB B fa)) (ha : PE X a (RdB B fb)) (hbase : attributeBase o "count" X.env (eval o X.env) = eval o X.env := by rfl)
    (hfew : ((backTo cpos (starEach [a] X.env)).all (fun x => !x.1) && (backToKw cpos (keywordEach [] X.env)).all (fun x => x.1.isSome)
      && decide (([a] : List Expr).length + ([] : List Keyword).length + (if ([] : List Keyword).isEmpty then 0 else 1) < 30)) = true := by rfl)
    (hline : (apos.endLine == cpos.line) = true := by rfl) (hs : starEach [a] X.env = (false, eval a X.env) :: starEach [] X.env := by rfl) (hplain : (backTo cpos (starEach [] X.env)).any (·.1) = false := by rfl) :
    PE X (.Call (.Attribute o "count" apos) [a] [] cpos) (RdE B (cntM isPt cntTD fa fb)) :=
  PE.imp (pe_bmP PySem.F.slot_tuple_count PySem.F.type_tuple_count (mt_countT (room65 hr)) ho (pa_cons ha pa_nil hs) hbase hfew hline hs hplain)
    (i_cnt (ty := tyP) (fun Z H d x hk r => by
      cases d with
      | ptup xs =>
        obtain ⟨p, vs, o, rfl, zp, hp, nd, _⟩ := r.ptup
        exact ⟨p, o, vs, rfl, hp, nd⟩
      | _ => cases hk) (fun Z H d d2 u x y Q ra rb h => by
      unfold cntTD at h
      split at h
      · rename_i xs
        split at h
        · rename_i q
          rw [Bool.and_eq_true] at q
          cases h
          refine ⟨_, rfl, fun hq => ⟨y, pD d2, pDs xs, rfl, ptup_dp ra q.1, rb.dp q.2, shaped_items q.1, okD_shaped q.2 (by decide), ?_⟩⟩
          rw [countP_eqd q.2 q.1]; exact hq
        · cases h
      · cases h))
end
end L2.Fl

namespace L2.Fl
open PySem PySem.Spec PyProof.Rows
/-! ### a lambda of one parameter, called by a built-in -/
structure LamS1 (sc scope : Scope) (x : Str) : Prop where
  kind : scope.kind = .function
  co : scope.isCoroutine = false
  gen : scope.isGenerator = false
  isx : scope.names.lookup x = some .local
  own : ∀ y ∈ scope.names, y.2 ≠ .cell ∧ (y.2 = .local → y.1 = x)
  free : ∀ y ∈ scope.names, y.2 = .free → sc.names.lookup y.1 = some .cell ∨ sc.names.lookup y.1 = some .free
def lamSB1 (sc scope : Scope) (x : Str) : Bool :=
  decide (scope.kind = .function) && !scope.isCoroutine && !scope.isGenerator && decide (scope.names.lookup x = some .local) && scope.names.all fun y => !decide (y.2 = .cell) && (!decide (y.2 = .local) || decide (y.1 = x)) && (!decide (y.2 = .free) || decide (sc.names.lookup y.1 = some .cell) || decide (sc.names.lookup y.1 = some .free))
theorem lamS1_by {sc scope : Scope} {x : Str} (h : lamSB1 sc scope x = true) : LamS1 sc scope x := by
  unfold lamSB1 at h
  simp only [Bool.and_eq_true, Bool.or_eq_true, Bool.not_eq_true', decide_eq_true_eq, decide_eq_false_iff_not, List.all_eq_true] at h
  obtain ⟨⟨⟨⟨h1, h2⟩, h3⟩, h5⟩, h4⟩ := h
  refine ⟨h1, h2, h3, h5, fun y hy => ⟨(h4 y hy).1.1, fun e => ?_⟩, fun y hy e => ?_⟩
  · rcases (h4 y hy).1.2 with z | z
    · exact absurd e z
    · exact z
  · rcases (h4 y hy).2 with (z | z) | z
    · exact absurd e z
    · exact .inl z
    · exact .inr z
theorem LamS1.has {X : Cx} {scope : Scope} {x : Str} (L : LamS1 X.env.scope scope x) (ok : X.Ok) : ∀ y ∈ scope.names, y.2 = .free → ∃ c, X.env.cells.lookup y.1 = some c := fun y hy e => by
  rcases L.free y hy e with k | k
  · exact ok.has _ (.inl k)
  · exact ok.has _ (.inr k)
section
variable {X : Cx} {pins : List (Addr × Obj)} {σ : L2.St} {H : Hp} {s : Shared}
theorem lam_start3 {A : Around} {E : XK} {scope : Scope} {f c' : Addr} {h₁ : Heap} {tk : Nat} {x : Str} {ix : Nat} {v : V} {u : Value} (I : Inv X pins σ H s) (L : LamS1 X.env.scope scope x) (hfr : A.frames = some X.stack) (hd : A.handled = none)
    (hns : h₁.Ns s.heap.objs.size fun y => ([(x, u)] : List (Str × Value)).reverse.lookup y) (kp : ∀ b o, s.heap.get? b = some o → h₁.get? b = some o) (hix : X.N[ix]? = some x) (hN : X.N.Nodup) (ru : RelV v u) :
    Inv (LamX.lamCx X A X.stack s H E scope f c') [] (σ.set ix (some v)) H { s with heap := h₁, toks := tk } := by
  have e0 := I.env0
  have hfree := L.has I.ok
  have cm : ∀ {y c}, (cloFrom X.env.cells scope.names []).lookup y = some c → X.env.cells.lookup y = some c := fun {y c} e => by
    rcases cloFrom_mem (PySem.mem_of_lookup e) with hm | ⟨h1, h2⟩
    · cases hm
    · obtain ⟨c1, hc⟩ := hfree _ h1 rfl
      have hc : X.env.cells.lookup y = some c1 := hc
      have e2 : c = c1 := by
        rw [h2, hc] <;> rfl
      rw [e2]
      exact hc
  have look : ∀ {y}, scope.names.lookup y = some .free → ∃ c, (cloFrom X.env.cells scope.names []).lookup y = some c := fun {y} hl => by
    have hy : (y, NameKind.free) ∈ scope.names := PySem.mem_of_lookup hl
    exact mem_lookup (cloFrom_has (cells := X.env.cells) (acc := []) hy)
  have cellK : ∀ {c : Addr} {v : Option Value}, s.heap.IsCell c v → h₁.IsCell c v := fun {c v} ⟨o, ho, hd⟩ => ⟨o, kp _ _ ho, hd⟩
  have noA : ∀ b : Addr, b ∉ (LamX.lamCx X A X.stack s H E scope f c').ex := fun b z => absurd (show b ∈ ([] : List Addr) from z) (by simp)
  refine ⟨⟨e0.mod, L.kind, rfl, rfl, Nat.le_refl _, fun y z c e1 e2 => I.ok.inj y z c (cm e1) (cm e2), fun y hy => ?_, fun y c z _ => ?_, fun _ => hd, Around.frames_deeper hfr, .inr ⟨rfl, rfl⟩, fun b z => absurd z (noA b), e0.bs, e0.bsz, fun b _ _ => noA b,
      fun b z => absurd z (noA b), e0.funs, e0.frf⟩,
    rfl, e0.bare, Un.kept kp, ⟨_, hns, fun i y v' e1 e2 e3 => ?_⟩, fun y c e => ?_, e0.hok.fresh (Nat.le_refl _), fun y c e => ?_, fun q hq => absurd (show q ∈ ([] : List (Addr × Obj)) ++ [] from hq) (by simp), e0.hok.kept kp, by rw [List.length_set]; exact I.len⟩
  · have hy : scope.names.lookup y = some .cell ∨ scope.names.lookup y = some .free := hy
    rcases hy with hy | hy
    · exact absurd rfl (L.own _ (PySem.mem_of_lookup hy)).1
    · exact look hy
  · have z : false = true := z
    cases z
  · have e3 : Vis scope y := e3
    by_cases hy : y = x
    · subst hy
      have ei : i = ix := nodup_ix hN e1 hix
      subst ei
      have hl : i < σ.length := by
        have := (List.getElem?_eq_some_iff.mp e2).1
        simpa using this
      rw [List.getElem?_set_self hl] at e2
      cases e2
      exact ⟨u, ru, .inl ⟨L.isx, by simp [List.lookup]⟩⟩
    · have ne : ix ≠ i := fun z => by
        subst z
        exact hy (Option.some.inj (e1.symm.trans hix))
      rw [List.getElem?_set_ne ne] at e2
      rcases e3 with k | k | k
      · exact absurd ((L.own _ (PySem.mem_of_lookup k)).2 rfl) hy
      · exact absurd rfl (L.own _ (PySem.mem_of_lookup k)).1
      · obtain ⟨m, hn, hl⟩ := I.loc
        have hvis : Vis X.env.scope y := (L.free _ (PySem.mem_of_lookup k) rfl).elim (fun k => .inr (.inl k)) (fun k => .inr (.inr k))
        obtain ⟨w', r, q⟩ := hl i y v' e1 e2 hvis
        obtain ⟨c2, h2⟩ := look k
        refine ⟨w', r, .inr ⟨.inr k, c2, h2, ?_⟩⟩
        have c1 := cm h2
        rcases q with ⟨k', _⟩ | ⟨_, c3, e', z⟩
        · have k' : X.env.scope.names.lookup y = some .local := k'
          rcases L.free _ (PySem.mem_of_lookup k) rfl with k2 | k2 <;> rw [show X.env.scope.names.lookup y = _ from k2] at k' <;> cases k'
        · rw [c1] at e'
          cases e'
          exact cellK z
  · obtain ⟨w', z⟩ := I.cell y c (cm e)
    exact ⟨w', cellK z⟩
  · exact I.freeC y c (cm e)
abbrev lamObj (X : Cx) (params : Arguments) (body : Expr) (scope : Scope) (pm : Value) (c' : Addr) (ctv : Value) : Obj := PySem.W.kla_obj "<lambda>" (X.env.qual ++ "<lambda>") params body scope (cloFrom X.env.cells scope.names []) pm c' ctv
/-- the lambda called: what its body says of the frame with the argument in it -/
theorem lam_call {A : Around} {scope : Scope} {params : Arguments} {body : Expr} {f c' : Addr} {pm ctv : Value} {x : Str} {ix k : Nat} {v : V} {u : Value} {t : TE} {Q : VK} {Ex : Value → Shared → Prop} (I : Inv X pins σ H s) (L : LamS1 X.env.scope scope x) (hfr : A.frames = some X.stack) (hr : Room (k + 1) A)
    (hf : s.heap.get? f = some (lamObj X params body scope pm c' ctv)) (hc : H c' = some (LamX.CodeO c' (X.env.qual ++ "<lambda>")))
    (hbind : bindArgs (PySem.W.kla_fn "<lambda>" (X.env.qual ++ "<lambda>") params body scope (cloFrom X.env.cells scope.names []) pm (.ref c') ctv) ⟨[u], []⟩ = pure [(x, u)]) (hix : X.N[ix]? = some x) (hN : X.N.Nodup) (ru : RelV v u)
    (hbody : PE (LamX.lamCx X A X.stack s H C8.E0 scope f c') body t) (ht : t (σ.set ix (some v)) H Q) :
    wpAny (model X.prog X.w) A (call (.ref f) [u]) (EP X pins σ Q) Ex s := by
  obtain ⟨⟨oc, vs, tt, hoc, hdc, hvc⟩, _, _⟩ := I.hok c' _ hc
  have rc : codeAny (model X.prog X.w) A (.call (.ref f) ⟨[u], []⟩) (CR (L2.CX X.prog X.w) X.stack X.prog X.w H s Q C8.E0) s := by
    refine PySem.W.kla_callFunE hr.depth hf rfl L.co L.gen rfl ⟨c', oc, vs, tt, rfl, hoc, hdc, hvc⟩ ?_
    rw [hbind]
    refine wpAny_pure (wpAny_newFunctionEnv (fun y hy => (L.own y hy).1) (fun y hy => ?_) (fun h₁ hns hsb => ⟨I.nolimit.fresh _ hsb, ?_⟩) L.kind)
    · rw [List.mem_singleton.mp hy]
      exact L.isx
    · show codeAny _ _ (.expr body (LamX.lamEnv X scope s.heap.objs.size f c')) _ _
      have kp : ∀ b o, s.heap.get? b = some o → h₁.get? b = some o := fun b o e => hsb.extBut b o (Nat.ne_of_lt (Heap.lt_size e)) (Heap.get?_push_of_some _ e)
      have J := lam_start3 (A := A) (E := C8.E0) (f := f) (c' := c') (tk := s.toks + ([(x, u)] : List (Str × Value)).length) I L hfr hr.hd hns kp hix hN ru
      refine PySem.W.kla_codeExpr (wpAny_mono (hbody.run [] _ _ H Q J ht) (fun v s' hq => ?_) fun e s' hq => hq)
      obtain ⟨w', H', J', rv, q⟩ := hq
      exact ⟨w', H', J'.os, J'.bare, J'.base, J'.hok, rv, q⟩
  refine wpAny_call (codeAny_mono rc fun r s' hq => ?_)
  cases r with
  | error e =>
    obtain ⟨_, _, _, _, _, _, _, _, _, _, _, _, z⟩ := hq
    exact z.elim
  | ok fl =>
    cases fl with
    | ret u => exact I.after hq
    | next => exact False.elim hq
    | brk => exact False.elim hq
    | cont => exact False.elim hq
end
end L2.Fl

namespace L2.Fl
open PySem PySem.Spec PyProof.Rows
/-! ### max(xs, key=lambda x: e), whole numbers as keys -/
section
variable {X : Cx} {pins : List (Addr × Obj)} {σ : L2.St} {H : Hp} {s : Shared}
theorem inv_pins {pins' : List (Addr × Obj)} (I : Inv X pins σ H s) (h : ∀ p ∈ X.pn ++ pins', p ∈ X.pn ++ pins) : Inv X pins' σ H s :=
  ⟨I.ok, I.os, I.bare, I.base, I.loc, I.cell, I.free, I.freeC, fun p hp => I.pin p (h p hp), I.hok, I.len⟩
theorem inv_pin {a : Addr} {o : Obj} (I : Inv X pins σ H s) (h1 : s.heap.get? a = some o) (h2 : H a = none) (h3 : a ≠ X.env.locals) (h4 : a ∉ X.fs) (h5 : ∀ v, o.data ≠ .cell v) : Inv X (pins ++ [(a, o)]) σ H s :=
  ⟨I.ok, I.os, I.bare, I.base, I.loc, I.cell, I.free, I.freeC, fun p hp => by
    rw [← List.append_assoc] at hp
    rcases List.mem_append.mp hp with hp | hp
    · exact I.pin p hp
    · rw [List.mem_singleton.mp hp]
      exact ⟨h1, h2, h3, h4, h5⟩, I.hok, I.len⟩
/-- what the loop asks: the items to come, the best one and its key -/
def tKeyL (K : PySem.W.Frag) (te : TE) (ix : Nat) (l S c' : Addr) (qn : Str) (all : List V) (σ : L2.St) : List V → V → Int → Hp → VK → Prop
  | [], vb, kb, H, Q => SqL K H l all ∧ H S = some (.lst [vb, .int kb]) ∧ Q vb (upd H S (.lst []))
  | x :: xs, vb, kb, H, Q => SqL K H l all ∧ H S = some (.lst [vb, .int kb]) ∧ H c' = some (LamX.CodeO c' qn) ∧ te (σ.set ix (some x)) H fun y H1 => ∃ k, y = .int k ∧ H1 S = some (.lst [vb, .int kb]) ∧
      (if kb < k then tKeyL K te ix l S c' qn all σ xs x k (upd H1 S (.lst [x, .int k])) Q else tKeyL K te ix l S c' qn all σ xs vb kb H1 Q)
theorem two_at {v : V} {k : Int} {S : Addr} (I : Inv X pins σ H s) (h : H S = some (.lst [v, .int k])) : ∃ (u : Value) (t : Tok) (n : Nat), RelV v u ∧ s.heap.get? S = some { cls := .type "list", data := .seq [u, .int k t].toArray n } := by
  obtain ⟨_, its, n, r, _, e⟩ := I.lstM h
  cases r with
  | cons r1 r2 =>
    cases r2 with
    | cons r2 r3 =>
      cases r3
      obtain ⟨t, rfl⟩ := r2
      exact ⟨_, t, n, r1, e⟩
theorem max_loop {scope : Scope} {params : Arguments} {body : Expr} {f c' l S it : Addr} {pm ctv : Value} {x : Str} {ix k : Nat} {all : List V} {te : TE} {Q : VK} {R : Result → Shared → Prop} (L : LamS1 X.env.scope scope x) (hr : Room (k + 1) X.A.in1)
    (hbind : ∀ u, bindArgs (PySem.W.kla_fn "<lambda>" (X.env.qual ++ "<lambda>") params body scope (cloFrom X.env.cells scope.names []) pm (.ref c') ctv) ⟨[u], []⟩ = pure [(x, u)]) (hix : X.N[ix]? = some x) (hN : X.N.Nodup)
    (hbody : ∀ s H, PE (LamX.lamCx X X.A.in1 X.stack s H C8.E0 scope f c') body te) (hfin : ∀ v u H' s', RelV v u → Inv X pins σ H' s' → Q v H' → R (.ok (.ret u)) s') :
    ∀ (rest : List V) (i : Nat) (s : Shared) (H : Hp) (vb : V) (kb : Int), all.drop i = rest → Inv X (pins ++ [(f, lamObj X params body scope pm c' ctv)]) σ H s → s.heap.IsListIter it l i → FpOk X (pins ++ [(f, lamObj X params body scope pm c' ctv)]) H it →
      tKeyL X.K te ix l S c' (X.env.qual ++ "<lambda>") all σ rest vb kb H Q → codeAny (model X.prog X.w) X.A (.builtin "max.loop" ⟨[.ref it, .ref f, .ref S], []⟩) R s := by
  have hname : (toString "max" ++ toString ".loop" : String) = "max.loop" := by decide
  intro rest
  induction rest with
  | nil =>
    intro i s H vb kb hd I st fp h
    obtain ⟨hl, hS, q⟩ := h
    obtain ⟨its, rv, p, hz⟩ := I.list hl
    obtain ⟨f0, f1, f2, f3, f4, f5⟩ := fp
    obtain ⟨u, t, n, ru, eS⟩ := two_at I hS
    refine codeAny_builtin PySem.F.entry_max_loop ?_
    rw [Around.under_plainId PySem.F.plain_max_loop _]
    show wpAny _ X.A.in1 (seqItems? (.ref S) >>= _) _ _ _
    refine wpAny_bind (wpAny_seqItems eS rfl ?_)
    show wpAny _ X.A.in1 (tryCatch (pyNext (.ref it)) _ >>= _) _ _ _
    have hlen := rv.length
    have hdl : all.length ≤ i := by
      have := congrArg List.length hd
      simp at this; omega
    refine wpAny_bind (wpAny_tryCatch (wpAny_pyNext_list_end hr.hd st p.isList (by simp; omega) fun h' eb => ?_))
    have I1 : Inv X (pins ++ [(f, lamObj X params body scope pm c' ctv)]) σ H { s with heap := h' } := I.turned (t' := s.toks) (fun b o hb e => eb b o hb e) f0 f1 f3 f4 f5
    obtain ⟨u', t', n', ru', eS'⟩ := two_at I1 hS
    have nS : S ≠ it := fun z => by rw [← z, hS] at f0; cases f0
    have e2 := eb S _ nS eS
    have eS' : h'.get? S = some { cls := .type "list", data := .seq [u', .int kb t'].toArray n' } := eS'
    rw [e2] at eS'
    cases eS'
    show wpAny _ X.A.in1 (updateSeq S (fun _ => #[]) >>= _) _ _ _
    refine wpAny_bind ?_
    refine wpAny_updateSeq e2 rfl (wpAny_bind (wpAny_letGo (wpAny_pure ?_)))
    have I2 := I1.lset (its' := []) (f := fun _ => #[]) (t' := s.toks) hS e2 rfl .nil (by show 0 ≤ sizeLine; exact Nat.zero_le _)
    exact hfin vb _ _ _ ru (inv_pins I2 fun p hp => by
      rw [← List.append_assoc]
      exact List.mem_append_left _ hp) q
  | cons x0 rest ih =>
    intro i s H vb kb hd I st fp h
    obtain ⟨hl, hS, hc, hte⟩ := h
    obtain ⟨its, rv, p, hz⟩ := I.list hl
    obtain ⟨f0, f1, f2, f3, f4, f5⟩ := fp
    obtain ⟨u, t, n, ru, eS⟩ := two_at I hS
    have hx : all[i]? = some x0 := by
      have := congrArg (fun l => l[0]?) hd
      simpa using this
    have hd' : all.drop (i + 1) = rest := by
      have := congrArg List.tail hd
      simpa using this
    obtain ⟨w, hw, rw0⟩ := rv.get hx
    refine codeAny_builtin PySem.F.entry_max_loop ?_
    rw [Around.under_plainId PySem.F.plain_max_loop _]
    show wpAny _ X.A.in1 (seqItems? (.ref S) >>= _) _ _ _
    refine wpAny_bind (wpAny_seqItems eS rfl ?_)
    show wpAny _ X.A.in1 (tryCatch (pyNext (.ref it)) _ >>= _) _ _ _
    refine wpAny_bind (wpAny_tryCatch (wpAny_pyNext_list_item st p.isList (x := w) (by simpa using hw) fun h' st' sb => ?_))
    have I1 : Inv X (pins ++ [(f, lamObj X params body scope pm c' ctv)]) σ H { s with heap := h' } := I.turned (t' := s.toks) (fun b o hb e => (sb.2 b hb).trans e) f0 f1 f3 f4 f5
    obtain ⟨oI, eI, cI, dI⟩ := id st'
    have I2 := inv_pin I1 (a := it) (o := oI) eI f0 f1 f2 (fun v z => by rw [dI] at z; cases z)
    have hf : h'.get? f = some (lamObj X params body scope pm c' ctv) := (I1.pin (f, _) (by simp)).1
    show wpAny _ X.A.in1 (tryCatch (holding [w] (call (.ref f) [w])) _ >>= _) _ _ _
    refine wpAny_bind (wpAny_tryCatch (wpAny_holding (thnF (lam_call (A := X.A.in1) (k := k) I2 L I.ok.frames hr hf hc (hbind w) hix hN rw0 (hbody _ H) hte) fun y s2 ⟨v2, H2, I3, r3, q3⟩ => ?_)))
    obtain ⟨k2, rfl, hS2, hn⟩ := q3
    obtain ⟨t2, rfl⟩ := r3
    have pI := I3.pin (it, oI) (by simp)
    have hit2 : s2.heap.IsListIter it l (i + 1) := ⟨oI, pI.1, cI, dI⟩
    have I4 : Inv X (pins ++ [(f, lamObj X params body scope pm c' ctv)]) σ H2 s2 := inv_pins I3 fun p hp => by
      rw [← List.append_assoc]
      exact List.mem_append_left _ hp
    have nS2 : S ≠ it := fun z => by
      have := pI.2.1
      rw [← z, hS2] at this; cases this
    have fp2 : ∀ {o : HO}, FpOk X (pins ++ [(f, lamObj X params body scope pm c' ctv)]) (upd H2 S o) it := fun {o} => ⟨by rw [upd_ne (Ne.symm nS2)]; exact pI.2.1, f1, f2, f3, f4, f5⟩
    obtain ⟨ub, tb, nb, rub, eS2⟩ := two_at I4 hS2
    obtain ⟨u0, t0, n0, ru0, eS0⟩ := two_at I1 hS
    have eS1 : h'.get? S = some { cls := .type "list", data := .seq [u, .int kb t].toArray n } := (sb.2 S nS2).trans eS
    show wpAny _ X.A.in1 (tryCatch (holding [w, .int k2 t2] (richCompare .Gt (.int k2 t2) (.int kb t) >>= _)) _ >>= _) _ _ _
    refine wpAny_bind (wpAny_tryCatch (wpAny_holding (wpAny_bind (CmpOf.ints_gt (P := fun i v => ∃ t, v = .int (if i = 0 then k2 else kb) t) (fun i => if i = 0 then k2 else kb) (fun i v h => h) 0 1 _ _ _ _ _ ⟨t2, rfl⟩ ⟨t, rfl⟩ ?_))))
    refine wpAny_bind (wpAny_holding (wpAny_truthy_bool ?_))
    refine wpAny_bind (wpAny_letGo (wpAny_pure ?_))
    by_cases hb : kb < k2
    · rw [if_pos hb] at hn
      have hb' : decide ((if (0 : Nat) = 0 then k2 else kb) > (if (1 : Nat) = 0 then k2 else kb)) = true := decide_eq_true (by simpa using hb)
      rw [if_pos (show (fun (i j : Nat) => decide ((if i = 0 then k2 else kb) > if j = 0 then k2 else kb)) 0 1 = true from hb')]
      refine wpAny_bind ?_
      refine wpAny_updateSeq eS2 rfl (wpAny_bind (wpAny_letGo ?_))
      rw [hname]
      have I5 := I4.lset (its' := [w, .int k2 t2]) (ys := [x0, .int k2]) (f := fun _ => #[w, .int k2 t2]) (t' := s2.toks) hS2 eS2 rfl (.cons rw0 (.cons ⟨t2, rfl⟩ .nil)) (by show 2 ≤ sizeLine; decide)
      refine wpAny_pure ⟨plainId_quiet PySem.F.plain_max_loop _, ih (i + 1) _ _ x0 k2 hd' I5 ⟨oI, ?_, cI, dI⟩ fp2 hn⟩
      exact (Heap.get?_update_other _ _ nS2).trans pI.1
    · rw [if_neg hb] at hn
      have hb' : decide ((if (0 : Nat) = 0 then k2 else kb) > (if (1 : Nat) = 0 then k2 else kb)) = false := decide_eq_false (by simpa using hb)
      rw [if_neg (show ¬ (fun (i j : Nat) => decide ((if i = 0 then k2 else kb) > if j = 0 then k2 else kb)) 0 1 = true from by
        show ¬ decide ((if (0 : Nat) = 0 then k2 else kb) > (if (1 : Nat) = 0 then k2 else kb)) = true
        rw [hb']; decide)]
      refine wpAny_bind (wpAny_letGo ?_)
      rw [hname]
      exact wpAny_pure ⟨plainId_quiet PySem.F.plain_max_loop _, ih (i + 1) _ _ vb kb hd' I4 hit2 ⟨pI.2.1, f1, f2, f3, f4, f5⟩ hn⟩
/-- what the call asks -/
def tKey0 (K : PySem.W.Frag) (te : TE) (ix : Nat) (l c' : Addr) (qn : Str) (σ : L2.St) (H : Hp) (Q : VK) : Prop :=
  ∃ (x0 : V) (xs : List V), SqL K H l (x0 :: xs) ∧ ∀ S, H S = none → upd H S (.lst []) c' = some (LamX.CodeO c' qn) ∧ te (σ.set ix (some x0)) (upd H S (.lst [])) fun y H1 => ∃ k, y = .int k ∧ H1 S = some (.lst []) ∧
    tKeyL K te ix l S c' qn (x0 :: xs) σ xs x0 k (upd H1 S (.lst [x0, .int k])) Q
theorem max_call {scope : Scope} {params : Arguments} {body : Expr} {f c' l : Addr} {pm ctv : Value} {x : Str} {ix k : Nat} {te : TE} {Q : VK} {Ex : Value → Shared → Prop} (L : LamS1 X.env.scope scope x) (hr : Room (k + 1) X.A.in1)
    (hbind : ∀ u, bindArgs (PySem.W.kla_fn "<lambda>" (X.env.qual ++ "<lambda>") params body scope (cloFrom X.env.cells scope.names []) pm (.ref c') ctv) ⟨[u], []⟩ = pure [(x, u)]) (hix : X.N[ix]? = some x) (hN : X.N.Nodup)
    (hbody : ∀ s H, PE (LamX.lamCx X X.A.in1 X.stack s H C8.E0 scope f c') body te) (I : Inv X (pins ++ [(f, lamObj X params body scope pm c' ctv)]) σ H s) (h : tKey0 X.K te ix l c' (X.env.qual ++ "<lambda>") σ H Q) :
    wpAny (model X.prog X.w) X.A (call (.builtin "max") [.ref l] [(Str.ofString "key", .ref f)]) (EP X pins σ Q) Ex s := by
  have hname : (toString "max" ++ toString ".loop" : String) = "max.loop" := by decide
  obtain ⟨x0, xs, hl, h⟩ := h
  obtain ⟨its, rv, p, hz⟩ := I.list hl
  refine kmk_tree PySem.F.kind_max PySem.F.plain_max PySem.F.entry_max (kmk_max_key _ _) ?_
  show wpAny _ X.A.in1 (Builtin.Builtins.bindParams "max" ["key", "default"] 0 ⟨[], [(Str.ofString "key", .ref f)]⟩ >>= _) _ _ s
  refine wpAny_bind (wpAny_of_eq (show Builtin.Builtins.bindParams "max" ["key", "default"] 0 ⟨[], [(Str.ofString "key", .ref f)]⟩ = pure [some (.ref f), none] from rfl) ?_)
  refine wpAny_bind (wpAny_pure ?_)
  refine wpAny_bind (wpAny_pyIter_list p.isList ?_)
  have I1 : Inv X (pins ++ [(f, lamObj X params body scope pm c' ctv)]) σ H { s with heap := s.heap.push { cls := .type "list_iterator", data := .fields #[.ref l, .int 0 0] } } := I.kept (t' := s.toks) fun b o e => Heap.get?_push_of_some _ e
  have fp : FpOk X (pins ++ [(f, lamObj X params body scope pm c' ctv)]) H s.heap.objs.size := I.fpOk (Nat.le_refl _) (I.hok.fresh (Nat.le_refl _))
  have gI : (s.heap.push { cls := .type "list_iterator", data := .fields #[.ref l, .int 0 0] }).get? s.heap.objs.size = some { cls := .type "list_iterator", data := .fields #[.ref l, .int 0 0] } := Heap.get?_push_size _ rfl
  refine wpAny_bind (wpAny_newList ?_ (Nat.zero_le _))
  rw [hname]
  refine wpAny_pure ⟨plainId_quiet PySem.F.plain_max_loop _, ?_⟩
  generalize hS0 : (s.heap.push { cls := .type "list_iterator", data := .fields #[.ref l, .int 0 0] }).objs.size = S
  have nS0 : H S = none := by rw [← hS0]; exact I1.fresh
  have I2 : Inv X (pins ++ [(f, lamObj X params body scope pm c' ctv)]) σ (upd H S (.lst [])) { s with heap := (s.heap.push { cls := .type "list_iterator", data := .fields #[.ref l, .int 0 0] }).push { cls := .type "list", data := .seq ([] : List Value).toArray } } := by
    rw [← hS0]
    exact I1.lnew (ys := []) (its := []) (t' := s.toks) .nil (by show 0 ≤ sizeLine; exact Nat.zero_le _)
  have eS : ((s.heap.push { cls := .type "list_iterator", data := .fields #[.ref l, .int 0 0] }).push { cls := .type "list", data := .seq ([] : List Value).toArray }).get? S = some { cls := .type "list", data := .seq ([] : List Value).toArray 0 } := by
    rw [← hS0]
    exact Heap.get?_push_size _ rfl
  generalize hh1 : (s.heap.push { cls := .type "list_iterator", data := .fields #[.ref l, .int 0 0] }).push { cls := .type "list", data := .seq ([] : List Value).toArray } = h1 at I2 eS
  have gI1 : h1.get? s.heap.objs.size = some { cls := .type "list_iterator", data := .fields #[.ref l, .int 0 0] } := by
    rw [← hh1]
    exact Heap.get?_push_of_some _ gI
  generalize hit : s.heap.objs.size = it at fp gI1
  have nSI : S ≠ it := fun z => by
    rw [z] at eS
    have z2 := congrArg (fun o => o.map Obj.cls) (eS.symm.trans gI1)
    simp at z2
  have st : h1.IsListIter it l 0 := ⟨_, gI1, rfl, rfl⟩
  obtain ⟨f0, f1, f2, f3, f4, f5⟩ := fp
  have fp2 : ∀ {H' : Hp} {o : HO}, H' it = none → FpOk X (pins ++ [(f, lamObj X params body scope pm c' ctv)]) (upd H' S o) it := fun {H' o} z => ⟨by rw [upd_ne (Ne.symm nSI)]; exact z, f1, f2, f3, f4, f5⟩
  obtain ⟨hc, hte⟩ := h S nS0
  have hl2 : SqL X.K (upd H S (.lst [])) l (x0 :: xs) := by
    rcases hl with hl | hl
    · refine .inl ?_
      rcases hl with hl | ⟨o, hl⟩
      · exact .inl (by rw [upd_ne (ne_of_none hl nS0)]; exact hl)
      · exact .inr ⟨o, by rw [upd_ne (ne_of_none hl nS0)]; exact hl⟩
    · exact .inr hl
  obtain ⟨its2, rv2, p2, hz2⟩ := I2.list hl2
  obtain ⟨w, hw, rw0⟩ := rv2.get (show (x0 :: xs)[0]? = some x0 from rfl)
  refine codeAny_builtin PySem.F.entry_max_loop ?_
  rw [Around.under_plainId PySem.F.plain_max_loop _]
  show wpAny _ X.A.in1 (seqItems? (.ref S) >>= _) _ _ _
  refine wpAny_bind (wpAny_seqItems eS rfl ?_)
  show wpAny _ X.A.in1 (tryCatch (pyNext (.ref it)) _ >>= _) _ _ _
  refine wpAny_bind (wpAny_tryCatch (wpAny_pyNext_list_item st p2.isList (x := w) (by simpa using hw) fun h' st' sb => ?_))
  have I3 : Inv X (pins ++ [(f, lamObj X params body scope pm c' ctv)]) σ (upd H S (.lst [])) { s with heap := h' } := I2.turned (t' := s.toks) (fun b o hb e => (sb.2 b hb).trans e) (by rw [upd_ne (Ne.symm nSI)]; exact f0) f1 f3 f4 f5
  obtain ⟨oI, eI, cI, dI⟩ := id st'
  have I4 := inv_pin I3 (a := it) (o := oI) eI (by rw [upd_ne (Ne.symm nSI)]; exact f0) f1 f2 (fun v z => by rw [dI] at z; cases z)
  have hf : h'.get? f = some (lamObj X params body scope pm c' ctv) := (I3.pin (f, _) (by simp)).1
  show wpAny _ X.A.in1 (tryCatch (holding [w] (call (.ref f) [w])) _ >>= _) _ _ _
  refine wpAny_bind (wpAny_tryCatch (wpAny_holding (thnF (lam_call (A := X.A.in1) (k := k) I4 L I.ok.frames hr hf hc (hbind w) hix hN rw0 (hbody _ _) hte) fun y s2 ⟨v2, H2, I5, r3, q3⟩ => ?_)))
  obtain ⟨k2, rfl, hS2, hn⟩ := q3
  obtain ⟨t2, rfl⟩ := r3
  have pI := I5.pin (it, oI) (by simp)
  have I6 : Inv X (pins ++ [(f, lamObj X params body scope pm c' ctv)]) σ H2 s2 := inv_pins I5 fun p hp => by
    rw [← List.append_assoc]
    exact List.mem_append_left _ hp
  obtain ⟨_, its3, n3, rv3, _, eS3⟩ := I6.lstM hS2
  cases rv3
  show wpAny _ X.A.in1 (updateSeq S (fun _ => #[w, .int k2 t2]) >>= _) _ _ _
  refine wpAny_bind (wpAny_updateSeq eS3 rfl ?_)
  rw [hname]
  have I7 := I6.lset (its' := [w, .int k2 t2]) (ys := [x0, .int k2]) (f := fun _ => #[w, .int k2 t2]) (t' := s2.toks) hS2 eS3 rfl (.cons rw0 (.cons ⟨t2, rfl⟩ .nil)) (by show 2 ≤ sizeLine; decide)
  refine wpAny_pure ⟨plainId_quiet PySem.F.plain_max_loop _, max_loop (k := k) (Q := Q) (all := x0 :: xs) L hr hbind hix hN hbody (fun v u H' s' rv I' q => ⟨v, H', I', rv, q⟩) xs 1 _ _ x0 k2 rfl I7 ⟨oI, (Heap.get?_update_other _ _ nSI).trans pI.1, cI, dI⟩ (fp2 pI.2.1) hn⟩
/-- max(a, key=lambda x: e) -/
def tMaxKey (K : PySem.W.Frag) (ta te : TE) (ix : Nat) (P : Addr) (L : Nat → Nat → Option Str) (qn : Str) : TE := fun σ H Q => ta σ H fun xv H1 => ∃ l, xv = .ref l ∧ TabP H1 (P, L) ∧ ∀ c' H2, (∀ b o, b ≠ P → H1 b = some o → H2 b = some o) → (∀ b, H2 b = none → H1 b = none) → TabP H2 (P, L) → H2 c' = some (LamX.CodeO c' qn) →
  tKey0 K te ix l c' qn σ H2 Q
theorem pe_maxKey {a body : Expr} {ta te : TE} {c P : Addr} {L : Nat → Nat → Option Str} {scope : Scope} {params : Arguments} {x : Str} {ix k : Nat} {p pos lpos kpos : Pos} (hg : Gl X "max") (hm : X.mg "max" = none) (ha : PE X a ta) (TB : LamX.TabB X.base X.mg c P) (hcode : X.env.code = .ref c)
    (hL : L lpos.line lpos.col = some (X.env.qual ++ "<lambda>")) (S : LamS1 X.env.scope scope x) (hr : Room (k + 1) X.A.in1) (hdef : defaultsOf params X.env = ([], []))
    (hbind : ∀ (u : Value) (pm ctv : Value) (c' : Addr), bindArgs (PySem.W.kla_fn "<lambda>" (X.env.qual ++ "<lambda>") params body scope (cloFrom X.env.cells scope.names []) pm (.ref c') ctv) ⟨[u], []⟩ = pure [(x, u)]) (hix : X.N[ix]? = some x) (hN : X.N.Nodup)
    (hbody : ∀ s H f c', PE (LamX.lamCx X X.A.in1 X.stack s H C8.E0 scope f c') body te)
    (he : backTo pos (starEach [a] X.env) = (false, eval a X.env) :: backTo pos (starEach [] X.env) := by rfl) (hpl : (backTo pos (starEach [a] X.env)).any (·.1) = false := by rfl) (hs : starEach [a] X.env = (false, eval a X.env) :: starEach [] X.env := by rfl) :
    PE X (.Call (.Name "max" p) [a] [⟨some "key", .Lambda params body scope lpos, kpos⟩] pos) (tMaxKey X.K ta te ix P L (X.env.qual ++ "<lambda>")) := by
  refine ⟨fun pins s σ H Q I h => ?_⟩
  refine wpAny_Call_Name_kw (ld_blt I hg hm (show bootBuiltins "max" = some (.builtin "max") by decide +kernel) ?_ (by decide) (by decide))
  refine PyProof.Rows.callWith_kw (thn ((pa_cons ha pa_nil hs).run pos pins s σ H (fun vs H1 => match vs with
    | [xv] => ∃ l, xv = .ref l ∧ TabP H1 (P, L) ∧ ∀ c' H2, (∀ b o, b ≠ P → H1 b = some o → H2 b = some o) → (∀ b, H2 b = none → H1 b = none) → TabP H2 (P, L) → H2 c' = some (LamX.CodeO c' (X.env.qual ++ "<lambda>")) → tKey0 X.K te ix l c' (X.env.qual ++ "<lambda>") σ H2 Q
    | _ => False) I h) fun us s1 ⟨vs, H1, I1, r1, q1⟩ => ?_) he hpl rfl rfl
  cases r1 with
  | nil => exact q1.elim
  | cons ru rt =>
    cases rt with
    | cons _ _ => exact q1.elim
    | nil =>
      obtain ⟨l, rfl, hT, hk⟩ := q1
      cases ru
      show wpAny _ _ (evalAll [(do let v ← eval (.Lambda params body scope lpos) X.env; standAt pos; pure v)]) _ _ s1
      refine wpAny_evalAll_cons (wpAny_bind (lam_mk I1 TB hcode hT hL hdef (S.has I1.ok) fun f c' pm ctv H2 s2 I2 eN dN T2 hf hfn hfr hco => wpAny_bind (wpAny_standAt (wpAny_pure (wpAny_evalAll_nil ?_)))))
      show wpAny _ _ (call (.builtin "max") [.ref l] [(Str.ofString "key", .ref f)]) _ _ _
      have n1 : f ≠ X.env.locals := fun z => by
        obtain ⟨m, ⟨o, es, ep, ho, r, _⟩, _⟩ := id I2.loc
        rw [← z, hf] at ho
        cases ho
        cases r
      have n2 : f ∉ X.fs := fun z => by
        rcases I2.ok.stk with e | ⟨e, _⟩
        · rw [e] at hfr; exact hfr z
        · rw [e] at hfr
          refine hfr ?_
          obtain ⟨en, h1, h2⟩ := List.mem_filterMap.mp z
          exact List.mem_filterMap.mpr ⟨en, List.mem_cons_of_mem _ h1, h2⟩
      exact max_call S hr (fun u => hbind u _ _ _) hix hN (fun s H => hbody s H f c') (inv_pin I2 hf hfn n1 n2 (fun v z => by cases z)) (hk c' H2 eN dN T2 hco)
end
end L2.Fl

namespace L2.Fl
open PySem PySem.Spec PyProof.Rows
/-! ### max(xs, key=lambda x: e) as plain data -/
def keyL (ix : Nat) (te : EM D) : List D → D → Int → EM D
  | [], d0, _ => fun ρ ω => .ok d0 ρ ω
  | d :: ds, d0, k0 => fun ρ ω => match te (ρ.set ix (.val d)) ω with
    | .ok (.int k) ρ1 ω1 => if k0 < k then keyL ix te ds d k (ρ1.set ix .no) ω1 else keyL ix te ds d0 k0 (ρ1.set ix .no) ω1
    | _ => .bad
def keyC (ix : Nat) (te : EM D) (x : D) (s : Option Slot) : EM D := match x, s with
  | .lst (d :: ds), some .no => fun ρ ω => (match te (ρ.set ix (.val d)) ω with
    | .ok (.int k) ρ1 ω1 => keyL ix te ds d k (ρ1.set ix .no) ω1
    | _ => .bad)
  | _, _ => fun _ _ => .bad
def keyM (ix : Nat) (fa te : EM D) : EM D := fun ρ ω => (fa ρ ω).andThen fun x ρ ω => keyC ix te x ρ[ix]? ρ ω
theorem keyC_inv {ix : Nat} {te : EM D} {x : D} {s : Option Slot} {ρ : Fr} {ω : W3} (h : keyC ix te x s ρ ω ≠ .bad) : ∃ d ds, x = .lst (d :: ds) ∧ s = some .no := by
  unfold keyC at h
  split at h
  · exact ⟨_, _, rfl, rfl⟩
  · exact absurd rfl h
section
variable {B : Bc} {σ : L2.St} {H : Hp} {ω : W3}
/-- a name of the lambda's forgotten -/
theorem J.unset {Z : Addr → Prop} {ρ : Fr} {ix : Nat} {v : Option V} (j : J B Z ρ (σ.set ix v) H ω) : J B Z (ρ.set ix .no) σ H ω := by
  have hl : ρ.length = σ.length := by rw [j.len]; simp
  have at_ : ∀ {k : Nat} {s : Slot}, (ρ.set ix .no)[k]? = some s → s ≠ .no → k ≠ ix ∧ ρ[k]? = some s := fun {k s} e n => by
    by_cases hk : ix = k
    · subst hk
      have hi : ix < ρ.length := by
        have := (List.getElem?_eq_some_iff.mp e).1
        simpa using this
      rw [List.getElem?_set_self hi] at e
      exact absurd (Option.some.inj e).symm n
    · rw [List.getElem?_set_ne hk] at e
      exact ⟨fun z => hk z.symm, e⟩
  refine ⟨j.good, j.ext, j.z0, j.zn, by simp [hl], fun k d e => ?_, fun k d e => ?_, j.res, fun k l d e p e1 e2 h1 h2 => ?_⟩
  · obtain ⟨hk, e'⟩ := at_ e (by intro z; cases z)
    obtain ⟨w, a, b⟩ := j.val k d e'
    rw [List.getElem?_set_ne (Ne.symm hk)] at a
    exact ⟨w, a, b⟩
  · obtain ⟨hk, e'⟩ := at_ e (by intro z; cases z)
    obtain ⟨p, a, b⟩ := j.own k d e'
    rw [List.getElem?_set_ne (Ne.symm hk)] at a
    exact ⟨p, a, b⟩
  · obtain ⟨hk, e1'⟩ := at_ e1 (by intro z; cases z)
    obtain ⟨hl', e2'⟩ := at_ e2 (by intro z; cases z)
    exact j.sep k l d e p e1' e2' (by rw [List.getElem?_set_ne (Ne.symm hk)]; exact h1) (by rw [List.getElem?_set_ne (Ne.symm hl')]; exact h2)
theorem SqL.keep {K : PySem.W.Frag} {g : Gd} {H H' : Hp} {l : Addr} {xs : List V} (h : H l = some (.lst xs)) (np : g.pd ≠ some l) (e : Ext g H H') : SqL K H' l xs := SqL.of (e.keep l _ h np fix_lst)
theorem i_keyL {K : PySem.W.Frag} {te : EM D} {ix : Nat} {l S c' : Addr} {qn : Str} {all : List V} {Hs : Hp} {Q : VK} (hS0 : Hs S = none) (nl : B.g.pd ≠ some l) (nS : B.g.pd ≠ some S) (hl : Hs l = some (.lst all)) (hc : Hs c' = some (LamX.CodeO c' qn)) (nc : B.g.pd ≠ some c') (h0 : B.H0 S = none) :
    ∀ (ds : List D) (vs : List V) (d0 : D) (v0 : V) (k0 : Int) (Z : Addr → Prop) (ρ : Fr) (H : Hp) (ω : W3), J (B.blk (· = S)) Z ρ σ H ω → Ext B.g Hs H → RDs B.g.tk Z H ds vs → RD B.g.tk Z H d0 v0 → H S = some (.lst [v0, .int k0]) →
      (match keyL ix te ds d0 k0 ρ ω with
        | .ok d ρ' ω' => ∀ (Z' : Addr → Prop) (v : V) (H' : Hp), Ext B.g Hs H' → (∀ p, Z p → Z' p) → J B Z' ρ' σ H' ω' → RD B.g.tk Z' H' d v → Q v H'
        | .exc c ω' => B.Ex c ω'
        | .bad => False) → tKeyL K (ExE B te) ix l S c' qn all σ vs v0 k0 H Q := by
  have extS : ∀ {H : Hp} {o : HO}, Ext B.g Hs H → Ext B.g Hs (upd H S o) := fun {H o} e => ⟨fun p u hp n f => by rw [upd_ne (ne_of_none hp hS0)]; exact e.keep p u hp n f, fun p hp => by
    by_cases z : p = S
    · rw [z]; exact hS0
    · rw [upd_ne z] at hp; exact e.dom p hp⟩
  have nSl : l ≠ S := ne_of_none hl hS0
  intro ds
  induction ds with
  | nil =>
    intro vs d0 v0 k0 Z ρ H ω j ex rds rd hS h
    cases rds
    refine ⟨SqL.keep hl nl ex, hS, ?_⟩
    have j1 : J (B.blk (· = S)) Z ρ σ (upd H S (.lst [])) ω := j.updR (p := S) (.inr rfl) h0 nS hS fix_lst
    exact h Z v0 _ (extS ex) (fun _ z => z) j1.ofBlk0 (rd.kp (kp_upd (j.res S (.inr rfl)).1))
  | cons d ds ih =>
    intro vs d0 v0 k0 Z ρ H ω j ex rds rd hS h
    cases rds with
    | cons r rs =>
      rename_i v vs
      have jS : J (B.blk (· = S)) Z (ρ.set ix (.val d)) (σ.set ix (some v)) H ω := j.setVal r
      refine ⟨SqL.keep hl nl ex, hS, ex.keep c' _ hc nc (fun ps z => by cases z), (· = S), Z, ρ.set ix (.val d), ω, jS, ?_⟩
      simp only [keyL] at h
      cases et : te (ρ.set ix (.val d)) ω with
      | bad => simp only [et] at h
      | exc c ω' => simp only [et] at h
      | ok y ρ1 ω1 =>
        cases y with
        | int k =>
          simp only [et] at h
          intro Z2 yv H2 e2 z2 j2 r2
          have := BR.int (g := B.g) (.inl r2)
          subst this
          have hS2 : H2 S = some (.lst [v0, .int k0]) := e2.keep S _ hS nS fix_lst
          have j3 : J (B.blk (· = S)) Z2 (ρ1.set ix .no) σ H2 ω1 := j2.unset
          refine ⟨k, rfl, hS2, ?_⟩
          by_cases hk : k0 < k
          · rw [if_pos hk] at h ⊢
            have j4 : J (B.blk (· = S)) Z2 (ρ1.set ix .no) σ (upd H2 S (.lst [v, .int k])) ω1 := j3.updR (p := S) (.inr rfl) h0 nS hS2 fix_lst
            have kp := (Kp.of j.good z2 e2).trans (kp_upd (o := .lst [v, .int k]) (j3.res S (.inr rfl)).1)
            refine ih vs d v k Z2 _ _ _ j4 (extS (ex.trans e2)) (rs.kp kp) (r.kp kp) upd_same ?_
            cases ek : keyL ix te ds d k (ρ1.set ix .no) ω1 with
            | bad => simp only [ek] at h
            | exc c ω' => simp only [ek] at h ⊢; exact h
            | ok dd ρ' ω' => simp only [ek] at h ⊢; exact fun Z' v H' a b c d => h Z' v H' a (fun p z => b p (z2 p z)) c d
          · rw [if_neg hk] at h ⊢
            refine ih vs d0 v0 k0 Z2 _ _ _ j3 (ex.trans e2) (rs.ext j.good z2 e2) (rd.ext j.good z2 e2) hS2 ?_
            cases ek : keyL ix te ds d0 k0 (ρ1.set ix .no) ω1 with
            | bad => simp only [ek] at h
            | exc c ω' => simp only [ek] at h ⊢; exact h
            | ok dd ρ' ω' => simp only [ek] at h ⊢; exact fun Z' v H' a b c d => h Z' v H' a (fun p z => b p (z2 p z)) c d
        | _ => simp only [et] at h
theorem i_maxKey {K : PySem.W.Frag} {fa te : EM D} {ix : Nat} {P : Addr} {L : Nat → Nat → Option Str} {qn : Str} (hP : TabLam B.g P L) (hcd : ∀ H ω Z c' q, Good B.g Z H ω → H c' = some (LamX.CodeO c' q) → B.g.pd ≠ some c') :
    ∀ σ H Q, RdE B (keyM ix fa te) σ H Q → tMaxKey K (RdB B fa) (ExE B te) ix P L qn σ H Q := fun σ H Q ⟨Z, ρ, ω, j, h⟩ => by
  refine ⟨Z, ρ, ω, j, ?_⟩
  unfold keyM at h
  cases ea : fa ρ ω with
  | bad => simp only [ea, Out.andThen] at h
  | exc c ω' => simp only [ea, Out.andThen] at h; exact h
  | ok x ρ1 ω1 =>
    simp only [ea, Out.andThen] at h
    intro Z1 xv H1 e1 z1 j1 r1
    have hx : ∃ d ds, x = .lst (d :: ds) ∧ ρ1[ix]? = some .no := keyC_inv (fun z => by rw [z] at h; exact h)
    · obtain ⟨d, ds, rfl, hi⟩ := hx
      rw [hi] at h
      simp only [keyC] at h
      have lp : ∃ p vs, xv = .ref p ∧ H1 p = some (.lst vs) ∧ RDs B.g.tk Z1 H1 (d :: ds) vs ∧ B.g.pd ≠ some p := by
        rcases r1 with r1 | ⟨p, rfl, n, ro⟩
        · cases r1 with
          | obj zp ro =>
            cases ro with
            | lst hp rs => exact ⟨_, _, rfl, hp, rs, (j1.good.zs _ zp).1⟩
        · cases ro with
          | lst hp rs => exact ⟨_, _, rfl, hp, rs, n⟩
      obtain ⟨l, vs, rfl, hl, rds, npl⟩ := lp
      refine ⟨l, rfl, j1.good.tabs _ hP.mem, fun c' H2 eN dN T2 hco => ?_⟩
      obtain ⟨ps, hps, _⟩ := j1.good.tabs _ hP.mem
      have nP : ∀ p o, H1 p = some o → Fix o → p ≠ P := fun p o e f z => by
        rw [z, hps] at e; cases e; exact f ps rfl
      have ex : Ext B.g H1 H2 := ⟨fun p o e _ f => eN p o (nP p o e f) e, dN⟩
      have gd2 : Good B.g Z1 H2 ω1 := by
        refine ⟨fun p z => ?_, fun q e => eN q _ (nP q _ (j1.good.dice q e) fix_lst) (j1.good.dice q e), fun p hp => ?_⟩
        · obtain ⟨n, o, e, f⟩ := j1.good.zs p z
          exact ⟨n, o, eN p o (nP p o e f) e, f⟩
        · by_cases e : p.1 = P
          · have e2 := hP.only p hp e
            obtain ⟨p1, p2⟩ := p
            simp only at e e2
            subst e e2
            exact T2
          · obtain ⟨ps', a, b, c⟩ := j1.good.tabs p hp
            refine ⟨ps', eN _ _ e a, b, fun pos cv q e1 e2 => ?_⟩
            obtain ⟨c', e3, e4⟩ := c pos cv q e1 e2
            refine ⟨c', e3, eN _ _ (fun z => ?_) e4⟩
            rw [z, hps] at e4; cases e4
      have j2 : J B Z1 ρ1 σ H2 ω1 := j1.called ex (fun _ z => z) (fun _ z => .inl z) gd2
      have hl2 : H2 l = some (.lst vs) := ex.keep l _ hl npl fix_lst
      have rds2 : RDs B.g.tk Z1 H2 (d :: ds) vs := rds.ext j1.good (fun _ z => z) ex
      cases rds2 with
      | cons r rs =>
        rename_i v vs
        have nc := hcd H2 ω1 Z1 c' qn gd2 hco
        refine ⟨v, vs, SqL.of hl2, fun S hS => ⟨by rw [upd_ne (ne_of_none hco hS)]; exact hco, ?_⟩⟩
        have gr : Grow B.g Z1 H2 Z1 (upd H2 S (.lst [])) := grow_new0 (g := B.g) (Z := Z1) (o := .lst []) hS
        obtain ⟨n1, n2, n3, n5, n4⟩ := fresh_of j2 hS
        have j3 : J (B.blk (· = S)) Z1 ρ1 σ (upd H2 S (.lst [])) ω1 := (j2.grow gr).toBlk fun p hp => by
          subst hp
          exact ⟨n1, by rw [upd_same]; simp, n4⟩
        have jS := j3.setVal (i := ix) (r.grow gr)
        refine ⟨(· = S), Z1, ρ1.set ix (.val d), ω1, jS, ?_⟩
        cases et : te (ρ1.set ix (.val d)) ω1 with
        | bad => simp only [et] at h
        | exc c ω' => simp only [et] at h
        | ok y ρ2 ω2 =>
          cases y with
          | int k =>
            simp only [et] at h
            intro Z2 yv H3 e3 z3 j4 r4
            have := BR.int (g := B.g) (.inl r4)
            subst this
            have hS3 : H3 S = some (.lst []) := e3.keep S _ upd_same n2 fix_lst
            have j5 : J (B.blk (· = S)) Z2 (ρ2.set ix .no) σ H3 ω2 := j4.unset
            have j6 : J (B.blk (· = S)) Z2 (ρ2.set ix .no) σ (upd H3 S (.lst [v, .int k])) ω2 := j5.updR (p := S) (.inr rfl) n3 n2 hS3 fix_lst
            have ex2 : Ext B.g H2 (upd H3 S (.lst [v, .int k])) := ⟨fun p u hp n f => by
              have np : p ≠ S := ne_of_none hp hS
              rw [upd_ne np]
              exact e3.keep p u (by rw [upd_ne np]; exact hp) n f, fun p hp => by
              by_cases z : p = S
              · rw [z]; exact hS
              · rw [upd_ne z] at hp
                have := e3.dom p hp
                rwa [upd_ne z] at this⟩
            have kp := (Kp.of (j2.grow gr).good z3 e3).trans (kp_upd (o := .lst [v, .int k]) (j5.res S (.inr rfl)).1)
            refine ⟨k, rfl, hS3, i_keyL (Hs := H2) (all := v :: vs) hS npl n2 hl2 hco nc n3 ds vs d v k Z2 _ _ _ j6 ex2 ((rs.grow gr).kp kp) ((r.grow gr).kp kp) upd_same ?_⟩
            cases ek : keyL ix te ds d k (ρ2.set ix .no) ω2 with
            | bad => simp only [ek] at h
            | exc c ω' => simp only [ek] at h ⊢; exact h
            | ok dd ρ' ω' => simp only [ek] at h ⊢; exact fun Z' w H' a b c d => h Z' w H' (e1.trans (ex.trans a)) (fun p z => b p (z3 p (z1 p z))) c d
          | _ => simp only [et] at h
theorem m_maxKey {X : Cx} {G : G0} {fa te : EM D} {a body : Expr} {c P : Addr} {L : Nat → Nat → Option Str} {scope : Scope} {params : Arguments} {x : Str} {ix k : Nat} {p pos lpos kpos : Pos} (hB : BOf G B) (hb : Bn X.mg) (ev : LamEv X B c P L) (hr : Room (k + 2) X.A) (ha : PE X a (RdB B fa))
    (S : lamSB1 X.env.scope scope x = true) (hL : L lpos.line lpos.col = some (X.env.qual ++ "<lambda>")) (hix : X.N[ix]? = some x) (hN : X.N.Nodup)
    (hbody : ∀ (s : Shared) (H : Hp) (f c' : Addr) (B' : Bc), BOf G B' → PE (LamX.lamCx X X.A.in1 X.stack s H C8.E0 scope f c') body (RdE B' te))
    (hg : Gl X "max" := by rfl) (hdef : defaultsOf params X.env = ([], []) := by rfl)
    (hbind : ∀ (u : Value) (pm ctv : Value) (c' : Addr), bindArgs (PySem.W.kla_fn "<lambda>" (X.env.qual ++ "<lambda>") params body scope (cloFrom X.env.cells scope.names []) pm (.ref c') ctv) ⟨[u], []⟩ = pure [(x, u)] := by intros; rfl)
    (he : backTo pos (starEach [a] X.env) = (false, eval a X.env) :: backTo pos (starEach [] X.env) := by rfl) (hpl : (backTo pos (starEach [a] X.env)).any (·.1) = false := by rfl) (hs : starEach [a] X.env = (false, eval a X.env) :: starEach [] X.env := by rfl) :
    PE X (.Call (.Name "max" p) [a] [⟨some "key", .Lambda params body scope lpos, kpos⟩] pos) (RdE B (keyM ix fa te)) :=
  PE.imp (pe_maxKey (k := k) hg hb.max ha ev.tb ev.code hL (lamS1_by S) ⟨hr.hd, by have := hr.dp; show X.A.depth + 3 * (k + 1) + 5 < _; omega, by have := hr.un; show X.A.units + 1 + 16 * (k + 1) + 200 < _; omega⟩ hdef hbind hix hN (fun s H f c' => x_e fun R => hbody s H f c' (B.blk R) (hB.blk R)) he hpl hs)
    (i_maxKey ev.lam fun H ω Z c' q gd hc z => by
      have := gd.dice _ z
      rw [hc] at this
      cases this)
end
end L2.Fl

namespace L2.Fl
open PySem PySem.Spec PyProof.Rows
/-! ### sorted(range(n), key=lambda x: e) -/
section
variable {X : Cx} {pins : List (Addr × Obj)} {σ : L2.St} {H : Hp} {s : Shared}
/-- what the keys' making asks -/
def tKeysL (te : TE) (ix : Nat) (c' : Addr) (qn : Str) (σ : L2.St) : List V → List V → Hp → (List V → Hp → Prop) → Prop
  | [], ys, H, Q => Q ys H
  | x :: xs, ys, H, Q => H c' = some (LamX.CodeO c' qn) ∧ te (σ.set ix (some x)) H fun y H1 => tKeysL te ix c' qn σ xs (ys ++ [y]) H1 Q
theorem vals_snoc : ∀ {ys : List V} {us : List Value} {y : V} {u : Value}, Vals ys us → RelV y u → Vals (ys ++ [y]) (us ++ [u])
  | _, _, _, _, .nil, r => .cons r .nil
  | _, _, _, _, .cons a b, r => .cons a (vals_snoc b r)
theorem FpOk.upd {b : Addr} (f : FpOk X pins H b) {H' : Hp} (h : H' b = none) : FpOk X pins H' b := ⟨h, f.2⟩
/-- the keys made, all that was tracked kept: then the rest of the sort -/
theorem keys_rest {scope : Scope} {params : Arguments} {body : Expr} {f c' a kS : Addr} {pm ctv : Value} {x : Str} {ix k : Nat} {te : TE} {P : PySem.Fin → Shared → Prop} {E : Value → Shared → Prop} {A : Around} {e1 : Nat} {Q : List V → Hp → Prop} (L : LamS1 X.env.scope scope x) (hfr : A.frames = some X.stack) (hr : Room (k + 1) A)
    (hbind : ∀ u, bindArgs (PySem.W.kla_fn "<lambda>" (X.env.qual ++ "<lambda>") params body scope (cloFrom X.env.cells scope.names []) pm (.ref c') ctv) ⟨[u], []⟩ = pure [(x, u)]) (hix : X.N[ix]? = some x) (hN : X.N.Nodup)
    (hbody : ∀ s H, PE (LamX.lamCx X A X.stack s H C8.E0 scope f c') body te) {vs : List Value} {xs : List V} (rv : Vals xs vs) (hz : vs.length ≤ sizeLine)
    (I : Inv X (pins ++ [(f, lamObj X params body scope pm c' ctv)]) σ H s) (fa : FpOk X (pins ++ [(f, lamObj X params body scope pm c' ctv)]) H a) (fk : FpOk X (pins ++ [(f, lamObj X params body scope pm c' ctv)]) H kS) (hka : kS ≠ a)
    (nk : s.heap.get? kS = some (seqObj "list" #[] 0)) (na : s.heap.get? a = some (seqObj "list" #[] e1))
    (h : tKeysL te ix c' (X.env.qual ++ "<lambda>") σ xs [] H Q)
    (hend : ∀ (ys : List V) (kA : Array Value) (e : Nat) (H' : Hp) (s' : Shared), Q ys H' → Vals ys kA.toList → kA.size = vs.length → Inv X (pins ++ [(f, lamObj X params body scope pm c' ctv)]) σ H' s' → FpOk X (pins ++ [(f, lamObj X params body scope pm c' ctv)]) H' a → FpOk X (pins ++ [(f, lamObj X params body scope pm c' ctv)]) H' kS →
      s'.heap.get? kS = some (seqObj "list" kA e) → s'.heap.get? a = some (seqObj "list" #[] e1) → wpAny (model X.prog X.w) A (ksk_end a false vs.toArray e1 (.ref kS) kA) P E s') :
    wpAny (model X.prog X.w) A (ksk_rest a (.ref f) false vs.toArray e1 (.ref kS)) P E s := by
  unfold ksk_rest
  refine wpAny_bind (wpAny_rule ?_)
  first
    | rw [List.forIn_toArray]
    | (rw [← Array.forIn_toList]; simp only [List.toList_toArray])
    | rw [← Array.forIn_toList]
  refine wpAny_bind (ksk_fold (fun i s' => ∃ (ys : List V) (kA : Array Value) (e : Nat) (H' : Hp), Inv X (pins ++ [(f, lamObj X params body scope pm c' ctv)]) σ H' s' ∧ H' a = none ∧ H' kS = none ∧ s'.heap.get? kS = some (seqObj "list" kA e) ∧ s'.heap.get? a = some (seqObj "list" #[] e1) ∧ Vals ys kA.toList ∧ kA.size = i ∧ tKeysL te ix c' (X.env.qual ++ "<lambda>") σ (xs.drop i) ys H' Q) vs 0 s
    ⟨[], #[], 0, H, I, fa.1, fk.1, nk, na, .nil, rfl, h⟩ ?step ?done)
  case step =>
    rintro j u s' hx ⟨ys, kA, e, H', I', ha', hk', nk', na', rk, hs, hq⟩
    simp only [Nat.zero_add] at hq hs ⊢
    have hj : j < vs.length := (List.getElem?_eq_some_iff.mp hx).1
    obtain ⟨xv, hxv, rx⟩ : ∃ xv, xs[j]? = some xv ∧ RelV xv u := by
      have hl : j < xs.length := by rw [rv.length]; exact hj
      obtain ⟨u', h1, h2⟩ := rv.get (List.getElem?_eq_getElem hl)
      rw [hx] at h1
      cases h1
      exact ⟨_, List.getElem?_eq_getElem hl, h2⟩
    have hd : xs.drop j = xv :: xs.drop (j + 1) := by
      obtain ⟨hl, e⟩ := List.getElem?_eq_some_iff.mp hxv
      rw [List.drop_eq_getElem_cons hl, e]
    rw [hd] at hq
    obtain ⟨hc, hte⟩ := hq
    have fa' : FpOk X (pins ++ [(f, lamObj X params body scope pm c' ctv)]) H' a := FpOk.upd fa ha'
    have fk' : FpOk X (pins ++ [(f, lamObj X params body scope pm c' ctv)]) H' kS := FpOk.upd fk hk'
    have I1 := inv_pin I' (a := a) na' ha' fa.2.1 fa.2.2.1 (fun v z => by cases z)
    have I2 := inv_pin I1 (a := kS) nk' hk' fk.2.1 fk.2.2.1 (fun v z => by cases z)
    have hf : s'.heap.get? f = some (lamObj X params body scope pm c' ctv) := (I'.pin (f, _) (by simp)).1
    refine wpAny_bind (wpAny_attempt (thnF (lam_call (A := A) (k := k) I2 L hfr hr hf hc (hbind u) hix hN rx (hbody _ _) hte) fun w s2 ⟨v2, H2, I3, r3, q3⟩ => ?_))
    have pk := I3.pin (kS, seqObj "list" kA e) (by simp)
    have pa := I3.pin (a, seqObj "list" #[] e1) (by simp)
    have I4 : Inv X (pins ++ [(f, lamObj X params body scope pm c' ctv)]) σ H2 s2 := inv_pins I3 fun p hp => by
      rw [List.append_assoc, ← List.append_assoc]
      exact List.mem_append_left _ hp
    try dsimp only
    obtain ⟨c2, hc2⟩ : ∃ c2, (s2.heap.update kS (Obj.mapSeq (·.push w))).get? kS = some (seqObj "list" (kA.push w) c2) := ⟨_, get?_update_seq pk.1 (·.push w)⟩
    have sb := Heap.SameBut.update s2.heap kS (Obj.mapSeq (·.push w))
    refine wpAny_bind (listUpdate_at pk.1 rfl ?_ (by rw [hs]; omega) (by rw [Array.size_push, hs]; omega))
    have fk2 : FpOk X (pins ++ [(f, lamObj X params body scope pm c' ctv)]) H2 kS := FpOk.upd fk pk.2.1
    obtain ⟨g0, g1, g2, g3, g4, g5⟩ := fk2
    have I5 : Inv X (pins ++ [(f, lamObj X params body scope pm c' ctv)]) σ H2 { s2 with heap := s2.heap.update kS (Obj.mapSeq (·.push w)) } := I4.turned (t' := s2.toks) (fun b o hb q => (sb.2 b hb).trans q) g0 g1 g3 g4 g5
    refine wpAny_pure ⟨rfl, ys ++ [v2], kA.push w, c2, H2, I5, pa.2.1, pk.2.1, hc2, (sb.2 a hka.symm).trans pa.1, ?_, by rw [Array.size_push, hs], q3⟩
    rw [Array.toList_push]
    exact vals_snoc rk r3
  case done =>
    rintro s' ⟨ys, kA, e, H', I', ha', hk', nk', na', rk, hs, hq⟩
    have e3 : xs.drop (0 + vs.length) = [] := by rw [List.drop_eq_nil_iff, rv.length]; omega
    rw [e3] at hq
    try dsimp only
    refine wpAny_bind (listItems_at nk' rfl ?_)
    exact hend ys kA e H' s' hq rk (by omega) I' (FpOk.upd fa ha') (FpOk.upd fk hk') nk' na'
/-- the items in the order of their keys -/
noncomputable def sortedV (kd : List PyData) (xs : List V) : List V := ((kd.zip xs).mergeSort (PySem.W.dataLe false (fun b : PyData × V => b.1))).map (·.2)
theorem each_zip : ∀ {kd : List PyData} {xs : List V} {vs : List Value}, Vals xs vs → kd.length = xs.length → PySem.W.EachIs (fun (v : Value) (b : PyData × V) => RelV b.2 v) vs (kd.zip xs)
  | [], [], _, .nil, _ => .nil
  | d :: kd, x :: xs, _, .cons r rr, h => .cons r (each_zip rr (by simpa using h))
theorem vals_of_each : ∀ {bs : List (PyData × V)} {out : List Value}, PySem.W.EachIs (fun (v : Value) (b : PyData × V) => RelV b.2 v) out bs → Vals (bs.map (·.2)) out
  | [], [], .nil => .nil
  | b :: bs, v :: out, .cons r rr => .cons r (vals_of_each rr)
theorem map_fst_zip' : ∀ {kd : List PyData} {xs : List V}, kd.length = xs.length → (kd.zip xs).map (·.1) = kd
  | [], [], _ => rfl
  | d :: kd, x :: xs, h => by simp [map_fst_zip' (kd := kd) (xs := xs) (by simpa using h)]
theorem sort_fin {A : Around} {pf : List (Addr × Obj)} {a kS : Addr} {e e1 : Nat} {kA : Array Value} {ys xs : List V} {vs : List Value} {kd : List PyData} {P : PySem.Fin → Shared → Prop} {E : Value → Shared → Prop} (I : Inv X pf σ H s) (fa : FpOk X pf H a) (fk : FpOk X pf H kS) (hka : kS ≠ a)
    (nk : s.heap.get? kS = some (seqObj "list" kA e)) (na : s.heap.get? a = some (seqObj "list" #[] e1)) (rk : Vals ys kA.toList) (rv : Vals xs vs) (hs : kA.size = vs.length) (hz : vs.length ≤ sizeLine)
    (hd : DpAll X.K H ys kd) (hl : kd.length = xs.length) (hal : PySem.W.AllAlike kd) (hsk : PySem.W.Sortable kd) (hu : ∀ d ∈ kd, A.units + d.depth < cLine)
    (h : ∀ s', Inv X pf σ (upd H a (.lst (sortedV kd xs))) s' → P (.done (.ret .none)) s') : wpAny (model X.prog X.w) A (ksk_end a false vs.toArray e1 (.ref kS) kA) P E s := by
  obtain ⟨as, hrd⟩ := Dp.readsAll I kd ys kA.toList hd rk
  have hk' : PySem.W.EachIs (fun v k => ∃ as, Reads s.heap v k as) kA.toList kd := by
    have := PySem.W.readsAll_each (enc := fun d : PyData => d) (show ReadsAll s.heap kA.toList (kd.map fun d => d) as by simpa using hrd)
    exact this
  obtain ⟨G, g1, g2⟩ := L2.restrict s.heap fun b => !(b == kS) && !(b == a)
  have gk : G.get? kS = none := g2 kS (by simp)
  have kp : PySem.W.KeepsBut a G s.heap := fun b o hb hG => by
    by_cases hb2 : b = kS
    · rw [hb2, gk] at hG; cases hG
    · rw [g1 b (by simp [hb, hb2])] at hG; exact hG
  have back : ∀ {b : Addr} {o : Obj}, b ≠ kS → b ≠ a → s.heap.get? b = some o → G.get? b = some o := fun {b o} h1 h2 hb => (g1 b (by simp [h1, h2])).trans hb
  refine PySem.W.keyH_end (κ := PySem.W.dataKind s.heap kd) (h₁ := G) kp gk nk na hka (PySem.W.SortsAt.data hk' hal hsk hu) hs hz fun h' tk c k3 n3 => h _ ?_
  have ko : PySem.W.KeyedOut false ((kd.zip xs).map (·.1)) vs (PySem.W.sortVals (PySem.W.dataKind s.heap kd) false kA.toList vs) := by
    rw [map_fst_zip' hl]
    exact ⟨s.heap, kA.toList, hal, rfl, hk'⟩
  have eo := PySem.W.keyedOut_each (fun b : PyData × V => b.1) ko (each_zip rv hl)
  have ro := vals_of_each eo
  have hlen : (sortedV kd xs).length = vs.length := by
    unfold sortedV
    rw [List.length_map, List.length_mergeSort, List.length_zip, hl, Nat.min_self, rv.length]
  obtain ⟨f0, f1, f2, f3, f4, f5⟩ := fa
  obtain ⟨q0, q1, q2, q3, q4, q5⟩ := fk
  have kept : ∀ b o, b ≠ a → b ≠ kS → s.heap.get? b = some o → h'.get? b = some o := fun b o h1 h2 hb => k3 b o h1 (back h2 h1 hb)
  have tr : ∀ b u, H b = some u → b ≠ a ∧ b ≠ kS := fun b u hb => ⟨fun z => (by rw [z, f0] at hb; cases hb), fun z => (by rw [z, q0] at hb; cases hb)⟩
  have new : ObjOk X.prog X.w (upd H a (.lst (sortedV kd xs))) h' a (.lst (sortedV kd xs)) := ⟨by rw [hlen]; exact hz, PySem.W.sortVals (PySem.W.dataKind s.heap kd) false kA.toList vs, c, ro, n3⟩
  refine I.step (g' := s.gens) (d' := s.drawn) (ch := [a, kS]) (fun b hb => ?_) (fun b o _ _ hc e _ => kept b o (fun z => hc (by simp [z])) (fun z => hc (by simp [z])) e) (fun b o _ _ hc e _ => ⟨o.slots, kept b o (fun z => hc (by simp [z])) (fun z => hc (by simp [z])) e⟩)
    (fun b o hc e n => by rw [upd_ne (fun z => hc (by simp [z]))]; exact n) (fun b o hc e => ⟨o, kept b o (fun z => hc (by simp [z])) (fun z => hc (by simp [z])) e⟩)
    (fun b xs e => by rw [upd_ne (tr b _ e).1]; exact e) (fun b o u e => by rw [upd_ne (tr b _ e).1]; exact e) (fun b ps e => ⟨#[], by rw [upd_ne (tr b _ e).1, e]; simp⟩) (fun m hm => ?_) (fun b u e => ?_) I.bare
  · rcases (by simpa using hb : b = a ∨ b = kS) with z | z
    · subst z; exact ⟨f3, f1, f4, f5⟩
    · subst z; exact ⟨q3, q1, q4, q5⟩
  · obtain ⟨o', es', ep', ho', r'⟩ := hm
    exact ⟨o', es', ep', kept _ _ (Ne.symm f1) (Ne.symm q1) ho', r'⟩
  · by_cases hb : b = a
    · subst hb; rw [upd_same] at e; cases e; exact new
    · rw [upd_ne hb] at e
      refine (I.hok b u e).stay (fun cc v n q => ?_) (fun cc q => ?_) fun cc xs q => ?_
      · rcases n with n | n
        · rw [n] at q ⊢; exact kept _ _ hb (tr b u e).2 q
        · exact kept _ _ (tr cc _ n).1 (tr cc _ n).2 q
      · rw [upd_ne (tr cc _ q).1]; exact q
      · rw [upd_ne (tr cc _ q).1]; exact q
/-- the range object of range(a), known -/
def tRngO (ta : TE) : TE := fun σ H Q => ta σ H fun x H1 => ∃ n, x = .int n ∧ ∀ r, H1 r = none → Q (.ref r) (upd H1 r (.rng 0 n))
theorem pe_rngO {a : Expr} {ta : TE} {p pos : Pos} (hg : Gl X "range") (hm : X.mg "range" = none) (ha : PE X a ta) (na : starEach [a] X.env = (false, eval a X.env) :: starEach [] X.env := by rfl) : PE X (.Call (.Name "range" p) [a] [] pos) (tRngO ta) := by
  refine ⟨fun pins s σ H Q I h => ?_⟩
  refine Call_ (ld_blt I hg hm boot_range (PyProof.Rows.callWith_type1 (one_arg ha I h (fun v s2 x H2 I2 r q => ?_) na) na))
  obtain ⟨n, rfl, q⟩ := q
  obtain ⟨t, rfl⟩ := r
  exact call_range_1 ⟨.ref s2.heap.objs.size, upd H2 s2.heap.objs.size (.rng 0 n), I2.laid (fun b u e => Heap.get?_push_of_some _ e) (Nat.le_refl _) ⟨_, _, _, Heap.get?_push_size _ rfl⟩, rfl, q _ (I2.hok.fresh (Nat.le_refl _))⟩
/-- what the call asks of the keys -/
def tSortE (K : PySem.W.Frag) (n : Int) (Q : VK) : List V → Hp → Prop := fun ys H3 => ∃ kd : List PyData, DpAll K H3 ys kd ∧ kd.length = n.toNat ∧ PySem.W.AllAlike kd ∧ PySem.W.Sortable kd ∧ (∀ d ∈ kd, d.depth ≤ 8) ∧ ∀ p, H3 p = none → Q (.ref p) (upd H3 p (.lst (sortedV kd (rgV 0 n))))
theorem sort_call {scope : Scope} {params : Arguments} {body : Expr} {f c' r : Addr} {pm ctv : Value} {x : Str} {ix k : Nat} {te : TE} {n : Int} {Q : VK} {Ex : Value → Shared → Prop} (L : LamS1 X.env.scope scope x) (hcalm : X.calm = true) (hr : Room (k + 1) X.A.in1.in1)
    (hbind : ∀ u, bindArgs (PySem.W.kla_fn "<lambda>" (X.env.qual ++ "<lambda>") params body scope (cloFrom X.env.cells scope.names []) pm (.ref c') ctv) ⟨[u], []⟩ = pure [(x, u)]) (hix : X.N[ix]? = some x) (hN : X.N.Nodup)
    (hbody : ∀ s H, PE (LamX.lamCx X X.A.in1.in1 X.stack s H C8.E0 scope f c') body te) (I : Inv X (pins ++ [(f, lamObj X params body scope pm c' ctv)]) σ H s) (hrg : H r = some (.rng 0 n)) (h0 : 0 ≤ n) (h1 : n ≤ 1000)
    (h : tKeysL te ix c' (X.env.qual ++ "<lambda>") σ (rgV 0 n) [] H (tSortE X.K n Q)) :
    wpAny (model X.prog X.w) X.A (call (.builtin "sorted") [.ref r] [(Str.ofString "key", .ref f)]) (EP X pins σ Q) Ex s := by
  obtain ⟨t, u, v, er⟩ := I.hok r _ hrg
  refine PyProof.Rows.call_function_entry_kw PyProof.Rows.kind_sorted PyProof.Rows.plain_sorted PyProof.Rows.entry_sorted (ksk_s1 _ _) ?_
  unfold Builtin.«sorted»
  refine wpAny_bind (m := checkCount "sorted" 1 1 _) (wpAny_pure ?_)
  refine wpAny_bind (collect_range (A := X.A.in1) (n := (n - 0).toNat) (I.ok.hd hcalm) er (small_one (by omega) (by omega) (by omega) (by omega)) (rangeSize_nat 0 n) (by omega) fun h' tk acc hk hi => ?_)
  have rv := vals_rg hi
  have hz : acc.toList.length ≤ 1000 := by rw [← rv.length, rgV_length]; omega
  have hz2 : acc.toList.length ≤ sizeLine := by rw [sizeLine_eq]; omega
  simp only
  refine wpAny_bind (wpAny_newList ?_ hz2)
  have I1 : Inv X (pins ++ [(f, lamObj X params body scope pm c' ctv)]) σ H { s with heap := h', toks := tk } := I.kept (t' := tk) hk
  generalize hh : h'.push { cls := .type "list", data := .seq acc.toList.toArray } = h1
  have I2 : Inv X (pins ++ [(f, lamObj X params body scope pm c' ctv)]) σ H { s with heap := h1, toks := tk } := by
    rw [← hh]; exact I1.kept (t' := tk) fun b o e => Heap.get?_push_of_some _ e
  have fa : FpOk X (pins ++ [(f, lamObj X params body scope pm c' ctv)]) H h'.objs.size := I1.fpOk (Nat.le_refl _) (I1.hok.fresh (Nat.le_refl _))
  have ho : h1.get? h'.objs.size = some (seqObj "list" acc.toList.toArray 0) := by rw [← hh]; exact Heap.get?_push_size _ rfl
  generalize h'.objs.size = a at fa ho
  refine wpAny_bind (wpAny_holding (wpAny_call_entry_kw PyProof.Rows.slot_list_sort ⟨_, ho, rfl⟩ PyProof.Rows.entry_list_sort ?body (ksk_l1 _ _)))
  show wpAny (model X.prog X.w) X.A.in1.in1 (Builtin.«list.sort» ⟨[.ref a], [(Str.ofString "key", .ref f)]⟩) _ _ _
  rw [ksk_t1]
  unfold ksk_tree
  obtain ⟨e1, ho1⟩ : ∃ e1, (h1.update a (Obj.mapSeq fun _ => (#[] : Array Value))).get? a = some (seqObj "list" #[] e1) := ⟨_, get?_update_seq ho fun _ => #[]⟩
  have sb := Heap.SameBut.update h1 a (Obj.mapSeq fun _ => (#[] : Array Value))
  obtain ⟨f0, f1, f2, f3, f4, f5⟩ := id fa
  have I3 : Inv X (pins ++ [(f, lamObj X params body scope pm c' ctv)]) σ H { s with heap := h1.update a (Obj.mapSeq fun _ => (#[] : Array Value)), toks := tk } := I2.turned (t' := tk) (fun b o hb q => (sb.2 b hb).trans q) f0 f1 f3 f4 f5
  refine wpAny_bind (listItems_at ho rfl ?_)
  refine wpAny_bind (listUpdate_at ho rfl ?_ (by rw [List.size_toArray]; exact hz2) (Nat.zero_le _))
  refine wpAny_bind (seqEpoch_at ho1 rfl ?_)
  generalize h1.update a (Obj.mapSeq fun _ => (#[] : Array Value)) = h2 at I3 ho1
  refine wpAny_bind (wpAny_newTuple ?_ (by show acc.toList.length ≤ _; exact hz2))
  have I4 : Inv X (pins ++ [(f, lamObj X params body scope pm c' ctv)]) σ H { s with heap := h2.push (seqObj "tuple" acc.toList.toArray 0), toks := tk } := I3.kept (t' := tk) fun b o e => Heap.get?_push_of_some _ e
  have ho2 : (h2.push (seqObj "tuple" acc.toList.toArray 0)).get? a = some (seqObj "list" #[] e1) := Heap.get?_push_of_some _ ho1
  show wpAny _ _ (newList [] >>= _) _ _ { s with heap := h2.push (seqObj "tuple" acc.toList.toArray 0), toks := tk }
  generalize h2.push (seqObj "tuple" acc.toList.toArray 0) = h3 at I4 ho2
  refine wpAny_bind (wpAny_newList ?_ (Nat.zero_le _))
  have fk : FpOk X (pins ++ [(f, lamObj X params body scope pm c' ctv)]) H h3.objs.size := I4.fpOk (Nat.le_refl _) (I4.hok.fresh (Nat.le_refl _))
  have hka : h3.objs.size ≠ a := Nat.ne_of_gt (Heap.lt_size ho2)
  refine wpAny_holding ?_
  refine keys_rest (A := X.A.in1.in1) (k := k) L I.ok.frames hr hbind hix hN hbody rv hz2 (I4.kept (t' := tk) fun b o e => Heap.get?_push_of_some _ e) fa fk hka (Heap.get?_push_size _ rfl) (Heap.get?_push_of_some _ ho2) h ?_
  intro ys kA e H' s' ⟨kd, hd, hl, hal, hsk, hdep, hq⟩ rk hs I5 fa5 fk5 nk na
  refine sort_fin I5 fa5 fk5 hka nk na rk rv hs hz2 hd (by rw [hl, rgV_length]; congr 1; omega) hal hsk (fun d hd => ?_) fun s6 I6 => ?_
  · have := hdep d hd
    have := hr.un
    show X.A.units + 2 + d.depth < _
    have : X.A.units + 2 + 16 * (k + 1) + 200 < cLine := by assumption
    omega
  · refine ⟨.none, rfl, wpAny_pure ⟨.ref a, rfl, .ref a, _, inv_pins I6 (fun p hp => by
      rw [← List.append_assoc]
      exact List.mem_append_left _ hp), rfl, hq a fa5.1⟩⟩
end
end L2.Fl

namespace L2.Fl
open PySem PySem.Spec PyProof.Rows
section
variable {X : Cx} {pins : List (Addr × Obj)} {σ : L2.St} {H : Hp} {s : Shared}
def tSortKey (K : PySem.W.Frag) (ta te : TE) (ix : Nat) (P : Addr) (L : Nat → Nat → Option Str) (qn : Str) : TE := fun σ H Q => tRngO ta σ H fun xv H1 => ∃ (r : Addr) (n : Int), xv = .ref r ∧ H1 r = some (.rng 0 n) ∧ 0 ≤ n ∧ n ≤ 1000 ∧ TabP H1 (P, L) ∧
  ∀ c' H2, (∀ b o, b ≠ P → H1 b = some o → H2 b = some o) → (∀ b, H2 b = none → H1 b = none) → TabP H2 (P, L) → H2 c' = some (LamX.CodeO c' qn) → tKeysL te ix c' qn σ (rgV 0 n) [] H2 (tSortE K n Q)
theorem pe_sortKey {a body : Expr} {ta te : TE} {c P : Addr} {L : Nat → Nat → Option Str} {scope : Scope} {params : Arguments} {x : Str} {ix k : Nat} {p p2 pos pos2 lpos kpos : Pos} (hc : X.calm = true) (hg : Gl X "sorted") (hm : X.mg "sorted" = none) (hg2 : Gl X "range") (hm2 : X.mg "range" = none) (ha : PE X a ta) (TB : LamX.TabB X.base X.mg c P) (hcode : X.env.code = .ref c)
    (hL : L lpos.line lpos.col = some (X.env.qual ++ "<lambda>")) (S : LamS1 X.env.scope scope x) (hr : Room (k + 1) X.A.in1.in1) (hdef : defaultsOf params X.env = ([], []))
    (hbind : ∀ (u : Value) (pm ctv : Value) (c' : Addr), bindArgs (PySem.W.kla_fn "<lambda>" (X.env.qual ++ "<lambda>") params body scope (cloFrom X.env.cells scope.names []) pm (.ref c') ctv) ⟨[u], []⟩ = pure [(x, u)]) (hix : X.N[ix]? = some x) (hN : X.N.Nodup)
    (hbody : ∀ s H f c', PE (LamX.lamCx X X.A.in1.in1 X.stack s H C8.E0 scope f c') body te) (na : starEach [a] X.env = (false, eval a X.env) :: starEach [] X.env)
    (he : backTo pos (starEach [.Call (.Name "range" p2) [a] [] pos2] X.env) = (false, eval (.Call (.Name "range" p2) [a] [] pos2) X.env) :: backTo pos (starEach [] X.env)) (hpl : (backTo pos (starEach [.Call (.Name "range" p2) [a] [] pos2] X.env)).any (·.1) = false) (hs : starEach [.Call (.Name "range" p2) [a] [] pos2] X.env = (false, eval (.Call (.Name "range" p2) [a] [] pos2) X.env) :: starEach [] X.env) :
    PE X (.Call (.Name "sorted" p) [.Call (.Name "range" p2) [a] [] pos2] [⟨some "key", .Lambda params body scope lpos, kpos⟩] pos) (tSortKey X.K ta te ix P L (X.env.qual ++ "<lambda>")) := by
  refine ⟨fun pins s σ H Q I h => ?_⟩
  refine wpAny_Call_Name_kw (ld_blt I hg hm (show bootBuiltins "sorted" = some (.builtin "sorted") by decide +kernel) ?_ (by decide) (by decide))
  refine PyProof.Rows.callWith_kw (thn ((pa_cons (pe_rngO hg2 hm2 ha na) pa_nil hs).run pos pins s σ H (fun vs H1 => match vs with
    | [xv] => ∃ (r : Addr) (n : Int), xv = .ref r ∧ H1 r = some (.rng 0 n) ∧ 0 ≤ n ∧ n ≤ 1000 ∧ TabP H1 (P, L) ∧
      ∀ c' H2, (∀ b o, b ≠ P → H1 b = some o → H2 b = some o) → (∀ b, H2 b = none → H1 b = none) → TabP H2 (P, L) → H2 c' = some (LamX.CodeO c' (X.env.qual ++ "<lambda>")) → tKeysL te ix c' (X.env.qual ++ "<lambda>") σ (rgV 0 n) [] H2 (tSortE X.K n Q)
    | _ => False) I h) fun us s1 ⟨vs, H1, I1, r1, q1⟩ => ?_) he hpl rfl rfl
  cases r1 with
  | nil => exact q1.elim
  | cons ru rt =>
    cases rt with
    | cons _ _ => exact q1.elim
    | nil =>
      obtain ⟨l, n, rfl, hrg, h0, h1, hT, hk⟩ := q1
      cases ru
      show wpAny _ _ (evalAll [(do let v ← eval (.Lambda params body scope lpos) X.env; standAt pos; pure v)]) _ _ s1
      have hlP : l ≠ P := fun z => by
        obtain ⟨ps, a, _⟩ := hT
        rw [z, a] at hrg; cases hrg
      refine wpAny_evalAll_cons (wpAny_bind (lam_mk I1 TB hcode hT hL hdef (S.has I1.ok) fun f c' pm ctv H2 s2 I2 eN dN T2 hf hfn hfr hco => wpAny_bind (wpAny_standAt (wpAny_pure (wpAny_evalAll_nil ?_)))))
      show wpAny _ _ (call (.builtin "sorted") [.ref l] [(Str.ofString "key", .ref f)]) _ _ _
      have n1 : f ≠ X.env.locals := fun z => by
        obtain ⟨m, ⟨o, es, ep, ho, r, _⟩, _⟩ := id I2.loc
        rw [← z, hf] at ho
        cases ho
        cases r
      have n2 : f ∉ X.fs := fun z => by
        rcases I2.ok.stk with e | ⟨e, _⟩
        · rw [e] at hfr; exact hfr z
        · rw [e] at hfr
          refine hfr ?_
          obtain ⟨en, h1, h2⟩ := List.mem_filterMap.mp z
          exact List.mem_filterMap.mpr ⟨en, List.mem_cons_of_mem _ h1, h2⟩
      exact sort_call S hc hr (fun u => hbind u _ _ _) hix hN (fun s H => hbody s H f c') (inv_pin I2 hf hfn n1 n2 (fun v z => by cases z)) (eN l _ hlP hrg) h0 h1 (hk c' H2 eN dN T2 hco)
end
/-! ### as plain data -/
def insP (le : D × Nat → D × Nat → Bool) (a : D × Nat) : List (D × Nat) → List (D × Nat)
  | [] => [a]
  | b :: t => if le a b then a :: b :: t else b :: insP le a t
def isortP (le : D × Nat → D × Nat → Bool) : List (D × Nat) → List (D × Nat)
  | [] => []
  | a :: l => insP le a (isortP le l)
def leK (a b : D × Nat) : Bool := leS false a.1 b.1
theorem insP_at {le : D × Nat → D × Nat → Bool} {a : D × Nat} : ∀ {l₁ l₂ : List (D × Nat)}, (∀ b ∈ l₁, le a b = false) → (∀ b, l₂.head? = some b → le a b = true) → insP le a (l₁ ++ l₂) = l₁ ++ a :: l₂
  | [], [], _, _ => rfl
  | [], b :: t, _, h => by
    show insP le a (b :: t) = _
    unfold insP
    rw [if_pos (h b rfl)]; rfl
  | c :: l₁, l₂, h, h2 => by
    show insP le a (c :: (l₁ ++ l₂)) = _
    unfold insP
    rw [if_neg (by rw [h c List.mem_cons_self]; decide), insP_at (fun b hb => h b (List.mem_cons_of_mem _ hb)) h2]; rfl
theorem isortP_eq {le : D × Nat → D × Nat → Bool} (tr : ∀ a b c, le a b = true → le b c = true → le a c = true) (to : ∀ a b, (le a b || le b a) = true) : ∀ l : List (D × Nat), isortP le l = l.mergeSort le
  | [] => by simp [isortP]
  | a :: l => by
    obtain ⟨l₁, l₂, e1, e2, h⟩ := List.mergeSort_cons tr to a l
    rw [e1]
    show insP le a (isortP le l) = _
    rw [isortP_eq tr to l, e2]
    refine insP_at (fun b hb => by simpa using h b hb) fun b hb => ?_
    have pw := List.pairwise_mergeSort tr to (a :: l)
    rw [e1] at pw
    have := (List.pairwise_append.mp pw).2.1
    cases l₂ with
    | nil => cases hb
    | cons c t =>
      cases hb
      exact (List.pairwise_cons.mp this).1 b List.mem_cons_self
theorem isortP_data (l : List (D × Nat)) : isortP leK l = l.mergeSort (PySem.W.dataLe false fun b : D × Nat => pD b.1) := by
  have T := PySem.W.sortLe_total (PyProof.Rows.listOrd PyProof.Rows.itemOrd) false fun b : D × Nat => PySem.W.keyToks (pD b.1)
  exact isortP_eq (le := PySem.W.dataLe false fun b : D × Nat => pD b.1) T.trans (fun a b => by
    rcases T.total a b with h | h
    · exact (Bool.or_eq_true _ _).mpr (.inl h)
    · exact (Bool.or_eq_true _ _).mpr (.inr h)) l
/-- 0 .. n - 1 in the order of their keys -/
def sortKN (ks : List D) (n : Nat) : List Nat := (isortP leK (ks.zip (List.range n))).map (·.2)
theorem sortedV_eq (ks : List D) (n : Int) : sortedV (ks.map pD) (rgV 0 n) = (sortKN ks n.toNat).map fun i : Nat => V.int (i : Nat) := by
  unfold sortedV sortKN
  rw [isortP_data, List.map_map]
  have e : (ks.map pD).zip (rgV 0 n) = (ks.zip (List.range n.toNat)).map fun p => (pD p.1, V.int ((p.2 : Nat) : Int)) := by
    unfold rgV
    rw [List.zip_map, show (n - 0).toNat = n.toNat by congr 1; omega]
    congr 1
    funext p
    simp [Prod.map]
  rw [e, ← List.map_mergeSort (r := PySem.W.dataLe false fun b : D × Nat => pD b.1) (f := fun p : D × Nat => (pD p.1, V.int ((p.2 : Nat) : Int))) (fun a _ b _ => rfl), List.map_map]
  rfl
def keysM (ix : Nat) (te : EM D) : List D → List D → EM (List D)
  | [], ks => fun ρ ω => .ok ks ρ ω
  | d :: ds, ks => fun ρ ω => match te (ρ.set ix (.val d)) ω with
    | .ok y ρ1 ω1 => keysM ix te ds (ks ++ [y]) (ρ1.set ix .no) ω1
    | _ => .bad
theorem keysM_len {ix : Nat} {te : EM D} : ∀ {ds ks : List D} {ρ : Fr} {ω : W3} {ks' : List D} {ρ' : Fr} {ω' : W3}, keysM ix te ds ks ρ ω = .ok ks' ρ' ω' → ks'.length = ks.length + ds.length
  | [], ks, ρ, ω, ks', ρ', ω', h => by simp only [keysM] at h; cases h; simp
  | d :: ds, ks, ρ, ω, ks', ρ', ω', h => by
    simp only [keysM] at h
    cases et : te (ρ.set ix (.val d)) ω with
    | bad => simp only [et] at h; cases h
    | exc c ω' => simp only [et] at h; cases h
    | ok y ρ1 ω1 =>
      simp only [et] at h
      rw [keysM_len h]; simp; omega
def natDs (n : Nat) : List D := (List.range n).map fun i : Nat => D.int (i : Nat)
def sortKeyC (ix : Nat) (te : EM D) (x : D) (s : Option Slot) : EM (List D) := match x, s with
  | .int n, some .no => fun ρ ω => if decide (0 ≤ n) && decide (n ≤ 1000) then (match keysM ix te (natDs n.toNat) [] ρ ω with
    | .ok ks ρ1 ω1 => if okDs ks 8 && alikeD ks && sortable ks then .ok ((sortKN ks n.toNat).map fun i : Nat => D.int (i : Nat)) ρ1 ω1 else .bad
    | _ => .bad) else .bad
  | _, _ => fun _ _ => .bad
def sortKeyM (ix : Nat) (fa te : EM D) : EM (List D) := fun ρ ω => (fa ρ ω).andThen fun x ρ ω => sortKeyC ix te x ρ[ix]? ρ ω
theorem sortKeyC_inv {ix : Nat} {te : EM D} {x : D} {s : Option Slot} {ρ : Fr} {ω : W3} (h : sortKeyC ix te x s ρ ω ≠ .bad) : ∃ n : Int, x = .int n ∧ s = some .no ∧ 0 ≤ n ∧ n ≤ 1000 := by
  unfold sortKeyC at h
  split at h
  · split at h
    · rename_i hc
      simp only [Bool.and_eq_true, decide_eq_true_eq] at hc
      exact ⟨_, rfl, rfl, hc.1, hc.2⟩
    · exact absurd rfl h
  · exact absurd rfl h
theorem sortable_of {xs : List D} (h1 : okDs xs 8 = true) (h3 : sortable xs = true) : PySem.W.Sortable (xs.map pD) := by
  simp only [sortable, Bool.or_eq_true, List.all_eq_true] at h3
  rcases h3 with h3 | h3
  · refine .inl fun d hd => ?_
    obtain ⟨y, hy, rfl⟩ := List.mem_map.mp hd
    have := h3 y hy
    match y, this with
    | .tup (z :: zs), _ => exact ⟨pD z, pDs zs, rfl⟩
  · refine .inr fun d hd => ?_
    obtain ⟨y, hy, rfl⟩ := List.mem_map.mp hd
    have := h3 y hy
    have hn := okDs_mem h1 y hy
    match y, this with
    | .bl _, _ => exact ⟨by simp [pD], fun _ => by simp [pD]⟩
    | .int _, _ => exact ⟨by simp [pD], fun _ => by simp [pD]⟩
    | .str _, _ => exact ⟨by simp [pD], fun _ => by simp [pD]⟩
    | .lst _, _ => exact ⟨by simp [pD], fun _ => by simp [pD]⟩
    | .dct _, _ => simp [okD] at hn
    | .dctT _, _ => simp [okD] at hn
    | .dctF _, _ => simp [okD] at hn
    | .dctG _, _ => simp [okD] at hn
section
variable {B : Bc} {σ : L2.St} {H : Hp} {ω : W3}
theorem RDs.snoc {tk : Nat → Option V} {Z : Addr → Prop} {H : Hp} : ∀ {ds : List D} {vs : List V} {d : D} {v : V}, RDs tk Z H ds vs → RD tk Z H d v → RDs tk Z H (ds ++ [d]) (vs ++ [v])
  | _, _, _, _, .nil, r => .cons r .nil
  | _, _, _, _, .cons a b, r => .cons a (b.snoc r)
theorem rds_nat {tk : Nat → Option V} {Z : Addr → Prop} {H : Hp} (l : List Nat) : RDs tk Z H (l.map fun i : Nat => D.int (i : Nat)) (l.map fun i : Nat => V.int (i : Nat)) := by
  induction l with
  | nil => exact .nil
  | cons i l ih => exact .cons (.int _) ih
theorem i_keysL {te : EM D} {ix : Nat} {c' : Addr} {qn : Str} {Hs : Hp} {Q : List V → Hp → Prop} (hc : Hs c' = some (LamX.CodeO c' qn)) (nc : B.g.pd ≠ some c') :
    ∀ (ds : List D) (vs : List V) (ks : List D) (ys : List V) (Z : Addr → Prop) (ρ : Fr) (H : Hp) (ω : W3), J B Z ρ σ H ω → Ext B.g Hs H → RDs B.g.tk Z H ds vs → RDs B.g.tk Z H ks ys →
      (match keysM ix te ds ks ρ ω with
        | .ok ks' ρ' ω' => ∀ (Z' : Addr → Prop) (ys' : List V) (H' : Hp), Ext B.g Hs H' → (∀ p, Z p → Z' p) → J B Z' ρ' σ H' ω' → RDs B.g.tk Z' H' ks' ys' → Q ys' H'
        | _ => False) → tKeysL (RdE B te) ix c' qn σ vs ys H Q := by
  intro ds
  induction ds with
  | nil =>
    intro vs ks ys Z ρ H ω j ex rds rks h
    cases rds
    exact h Z ys H ex (fun _ z => z) j rks
  | cons d ds ih =>
    intro vs ks ys Z ρ H ω j ex rds rks h
    cases rds with
    | cons r rs =>
      rename_i v vs
      have jS : J B Z (ρ.set ix (.val d)) (σ.set ix (some v)) H ω := j.setVal r
      refine ⟨ex.keep c' _ hc nc (fun ps z => by cases z), Z, ρ.set ix (.val d), ω, jS, ?_⟩
      simp only [keysM] at h
      cases et : te (ρ.set ix (.val d)) ω with
      | bad => simp only [et] at h
      | exc c ω' => simp only [et] at h
      | ok y ρ1 ω1 =>
        simp only [et] at h
        intro Z2 yv H2 e2 z2 j2 r2
        have j3 : J B Z2 (ρ1.set ix .no) σ H2 ω1 := j2.unset
        refine ih vs (ks ++ [y]) (ys ++ [yv]) Z2 _ _ _ j3 (ex.trans e2) (rs.ext j.good z2 e2) ((rks.ext j.good z2 e2).snoc r2) ?_
        cases ek : keysM ix te ds (ks ++ [y]) (ρ1.set ix .no) ω1 with
        | bad => simp only [ek] at h
        | exc c ω' => simp only [ek] at h
        | ok dd ρ' ω' => simp only [ek] at h ⊢; exact fun Z' v H' a b c d => h Z' v H' a (fun p z => b p (z2 p z)) c d
theorem i_sortKey {K : PySem.W.Frag} {fa te : EM D} {ix : Nat} {P : Addr} {L : Nat → Nat → Option Str} {qn : Str} (hP : TabLam B.g P L) (hcd : ∀ H ω Z c' q, Good B.g Z H ω → H c' = some (LamX.CodeO c' q) → B.g.pd ≠ some c') :
    ∀ σ H Q, RdF B (sortKeyM ix fa te) σ H Q → tSortKey K (RdB B fa) (RdE B te) ix P L qn σ H Q := fun σ H Q ⟨Z, ρ, ω, j, h⟩ => by
  refine ⟨Z, ρ, ω, j, ?_⟩
  unfold sortKeyM at h
  cases ea : fa ρ ω with
  | bad => simp only [ea, Out.andThen] at h
  | exc c ω' => simp only [ea, Out.andThen] at h; exact h
  | ok x ρ1 ω1 =>
    simp only [ea, Out.andThen] at h
    intro Z1 xv H1 e1 z1 j1 r1
    obtain ⟨n, rfl, hi, h0, h1⟩ := sortKeyC_inv (fun z => by rw [z] at h; exact h)
    rw [hi] at h
    have hcond : (decide (0 ≤ n) && decide (n ≤ 1000)) = true := by simp [h0, h1]
    simp only [sortKeyC, hcond, if_true] at h
    have := BR.int r1
    subst this
    refine ⟨n, rfl, fun r hr => ⟨r, n, rfl, upd_same, h0, h1, ?_⟩⟩
    have gr : Grow B.g Z1 H1 Z1 (upd H1 r (.rng 0 n)) := grow_new0 (g := B.g) (Z := Z1) (o := .rng 0 n) hr
    have jr : J B Z1 ρ1 σ (upd H1 r (.rng 0 n)) ω1 := j1.grow gr
    refine ⟨jr.good.tabs _ hP.mem, fun c' H2 eN dN T2 hco => ?_⟩
    obtain ⟨ps, hps, _⟩ := jr.good.tabs _ hP.mem
    have nP : ∀ p o, upd H1 r (.rng 0 n) p = some o → Fix o → p ≠ P := fun p o e f z => by
      rw [z, hps] at e; cases e; exact f ps rfl
    have ex : Ext B.g (upd H1 r (.rng 0 n)) H2 := ⟨fun p o e _ f => eN p o (nP p o e f) e, dN⟩
    have gd2 : Good B.g Z1 H2 ω1 := by
      refine ⟨fun p z => ?_, fun q e => eN q _ (nP q _ (jr.good.dice q e) fix_lst) (jr.good.dice q e), fun p hp => ?_⟩
      · obtain ⟨n, o, e, f⟩ := jr.good.zs p z
        exact ⟨n, o, eN p o (nP p o e f) e, f⟩
      · by_cases e : p.1 = P
        · have e2 := hP.only p hp e
          obtain ⟨p1, p2⟩ := p
          simp only at e e2
          subst e e2
          exact T2
        · obtain ⟨ps', a, b, c⟩ := jr.good.tabs p hp
          refine ⟨ps', eN _ _ e a, b, fun pos cv q e1 e2 => ?_⟩
          obtain ⟨c', e3, e4⟩ := c pos cv q e1 e2
          refine ⟨c', e3, eN _ _ (fun z => ?_) e4⟩
          rw [z, hps] at e4; cases e4
    have j2 : J B Z1 ρ1 σ H2 ω1 := jr.called ex (fun _ z => z) (fun _ z => .inl z) gd2
    have nc := hcd H2 ω1 Z1 c' qn gd2 hco
    have rgE : rgV 0 n = (List.range n.toNat).map fun i : Nat => V.int (i : Nat) := by
      unfold rgV
      rw [show (n - 0).toNat = n.toNat by congr 1; omega]
      congr 1
      funext i
      simp
    refine i_keysL (Hs := H2) hco nc (natDs n.toNat) (rgV 0 n) [] [] Z1 ρ1 H2 ω1 j2 Ext.refl (by rw [rgE]; exact rds_nat _) .nil ?_
    cases ek : keysM ix te (natDs n.toNat) [] ρ1 ω1 with
    | bad => simp only [ek] at h
    | exc c ω' => simp only [ek] at h
    | ok ks ρ2 ω2 =>
      simp only [ek] at h ⊢
      intro Z3 ys H3 e3 z3 j3 rks
      by_cases hc : (okDs ks 8 && alikeD ks && sortable ks) = true
      · rw [if_pos hc] at h
        simp only at h
        simp only [Bool.and_eq_true] at hc
        obtain ⟨⟨c1, c2⟩, c3⟩ := hc
        have hal := alikeD_all c1 c2
        rw [pDs_map] at hal
        have hdp : DpAll K H3 ys (ks.map pD) := by rw [← pDs_map]; exact rks.dp c1
        have hlen : ks.length = n.toNat := by
          rw [keysM_len ek]; simp [natDs]
        refine ⟨ks.map pD, hdp, by rw [List.length_map]; exact hlen, hal.1, sortable_of c1 c3, fun d hd => ?_, fun p hp => ?_⟩
        · obtain ⟨y, hy, rfl⟩ := List.mem_map.mp hd
          exact pD_depth y 8 (okDs_mem c1 y hy)
        · obtain ⟨n1, n2, n3, n5, n4⟩ := fresh_of j3 hp
          have gr3 := grow_new0 (g := B.g) (Z := Z3) (o := .lst (sortedV (ks.map pD) (rgV 0 n))) hp
          have exr : Ext B.g H1 (upd H1 r (.rng 0 n)) := gr.ext
          refine h Z3 p _ _ (e1.trans (exr.trans (ex.trans (e3.trans gr3.ext)))) (fun p z => z3 p (z1 p z)) (j3.grow gr3) upd_same ?_ n1 n2 n3 n5 n4
          rw [sortedV_eq]
          exact rds_nat _
      · rw [if_neg hc] at h
        exact h.elim
theorem m_sortKey {X : Cx} {G : G0} {fa te : EM D} {a body : Expr} {c P : Addr} {L : Nat → Nat → Option Str} {scope : Scope} {params : Arguments} {x : Str} {ix k : Nat} {p p2 pos pos2 lpos kpos : Pos} (hc : X.calm = true) (hB : BOf G B) (hb : Bn X.mg) (ev : LamEv X B c P L) (hr : Room (k + 2) X.A) (ha : PE X a (RdB B fa))
    (S : lamSB1 X.env.scope scope x = true) (hL : L lpos.line lpos.col = some (X.env.qual ++ "<lambda>")) (hix : X.N[ix]? = some x) (hN : X.N.Nodup)
    (hbody : ∀ (s : Shared) (H : Hp) (f c' : Addr) (B' : Bc), BOf G B' → PE (LamX.lamCx X X.A.in1.in1 X.stack s H C8.E0 scope f c') body (RdE B' te))
    (hg : Gl X "sorted" := by rfl) (hg2 : Gl X "range" := by rfl) (hdef : defaultsOf params X.env = ([], []) := by rfl)
    (hbind : ∀ (u : Value) (pm ctv : Value) (c' : Addr), bindArgs (PySem.W.kla_fn "<lambda>" (X.env.qual ++ "<lambda>") params body scope (cloFrom X.env.cells scope.names []) pm (.ref c') ctv) ⟨[u], []⟩ = pure [(x, u)] := by intros; rfl)
    (na : starEach [a] X.env = (false, eval a X.env) :: starEach [] X.env := by rfl)
    (he : backTo pos (starEach [.Call (.Name "range" p2) [a] [] pos2] X.env) = (false, eval (.Call (.Name "range" p2) [a] [] pos2) X.env) :: backTo pos (starEach [] X.env) := by rfl) (hpl : (backTo pos (starEach [.Call (.Name "range" p2) [a] [] pos2] X.env)).any (·.1) = false := by rfl) (hs : starEach [.Call (.Name "range" p2) [a] [] pos2] X.env = (false, eval (.Call (.Name "range" p2) [a] [] pos2) X.env) :: starEach [] X.env := by rfl) :
    PE X (.Call (.Name "sorted" p) [.Call (.Name "range" p2) [a] [] pos2] [⟨some "key", .Lambda params body scope lpos, kpos⟩] pos) (RdF B (sortKeyM ix fa te)) :=
  PE.imp (pe_sortKey (k := k) hc hg hb.sorted hg2 hb.range ha ev.tb ev.code hL (lamS1_by S) ⟨hr.hd, by have := hr.dp; show X.A.depth + 3 * (k + 1) + 5 < _; omega, by have := hr.un; show X.A.units + 2 + 16 * (k + 1) + 200 < _; omega⟩ hdef hbind hix hN (fun s H f c' => hbody s H f c' B hB) na he hpl hs)
    (i_sortKey ev.lam fun H ω Z c' q gd hc z => by
      have := gd.dice _ z
      rw [hc] at this
      cases this)
end
end L2.Fl

namespace L2.Fl
open PySem PySem.Spec PyProof.Rows
/-! ### zip of two lists -/
def zipD : List D → Option (List D)
  | [.lst xs, .lst ys] => some (pairUp xs ys)
  | _ => none
theorem zipD_some {d r : List D} (h : zipD d = some r) : ∃ xs ys, d = [.lst xs, .lst ys] ∧ r = pairUp xs ys := by
  unfold zipD at h
  split at h
  · cases h; exact ⟨_, _, rfl, rfl⟩
  · cases h
def zipM (f : EM (List D)) : EM (List D) := fun ρ ω => (f ρ ω).andThen fun d => optM (zipD d)
section
variable {B : Bc} {K : PySem.W.Frag} {X : Cx} {tg iter : Expr}
theorem wk_zip {R : (Addr → Prop) → Hp → Prop} {a b : Addr} {xs ys : List D} {vs us : List V} {g : Gd} (hl : xs.length = vs.length) (hl2 : ys.length = us.length) (hG : ∀ Z H, R Z H → SqL K H a vs ∧ SqL K H b us) (hr : ∀ Z H, R Z H → RDs g.tk Z H xs vs ∧ RDs g.tk Z H ys us) : Wk g R (Itz K a b) (pairUp xs ys) := by
  refine wk_pair (G := fun H => SqL K H a vs ∧ SqL K H b us) (walk_zip (xs := vs) (ys := us) (by rw [pairUp_len, hl, hl2])) hG fun i Z H hi r => ?_
  rw [pairUp_len] at hi
  have h1 : xs[i]? = some (xs[i]'(by omega)) := List.getElem?_eq_getElem (by omega)
  have h2 : ys[i]? = some (ys[i]'(by omega)) := List.getElem?_eq_getElem (by omega)
  obtain ⟨v, h3, h4⟩ := (hr Z H r).1.get h1
  obtain ⟨u, h5, h6⟩ := (hr Z H r).2.get h2
  exact ⟨_, _, v, u, pairUp_get h1 h2, h3, h5, h4, h6⟩
theorem w_zip {f : EM (List D)} (h : PI X tg iter (iZip K (RdA B f))) : PI X tg iter (RdI B (zipM f)) := PI.imp h fun σ H R ⟨Z, ρ, ω, j, q⟩ => by
  refine ⟨Z, ρ, ω, j, ?_⟩
  unfold zipM at q
  cases ea : f ρ ω with
  | bad => simp only [ea, Out.andThen] at q
  | exc c ω' => simp only [ea, Out.andThen] at q; exact q
  | ok d ρ1 ω1 =>
    simp only [ea, Out.andThen, optM] at q
    intro Z1 vs H1 e1 z1 j1 r1
    cases ez : zipD d with
    | none => simp only [ez] at q
    | some r =>
      simp only [ez] at q
      obtain ⟨xs, ys, rfl, rfl⟩ := zipD_some ez
      cases r1 with
      | cons ra rr =>
      cases rr with
      | cons rb rr =>
      cases rr
      cases ra with
      | obj zp ro =>
        cases ro with
        | lst hp rs =>
          cases rb with
          | obj zq rq =>
            cases rq with
            | lst hq rt => exact ⟨_, _, _, _, rfl, SqL.of hp, SqL.of hq, q Z1 H1 _ e1 z1 j1 (wk_zip rs.length rt.length (fun Z H r => ⟨SqL.of (r.keep _ _ (.inl zp) hp), SqL.of (r.keep _ _ (.inl zq) hq)⟩) fun Z H r => ⟨rs.kp r, rt.kp r⟩)⟩
end
end L2.Fl

namespace L2.Fl
open PySem PySem.Spec PyProof.Rows
/-! ### sum of a tuple -/
section
variable {prog : Program} {w : World} {A : Around} {E : Value → Shared → Prop} {s : Shared} {l : Addr} {its : List Value} {ns : List Int} {Q : Value → Shared → Prop}
theorem sum_rawT (hh : A.handled = none) (hl : s.heap.IsTuple l its.toArray) (hi : IntsAre its ns)
    (h : ∀ h' tk t', (∀ b o, s.heap.get? b = some o → h'.get? b = some o) → Q (.int ns.sum t') { s with heap := h', toks := tk }) : wpAny (model prog w) A (call (.builtin "sum") [.ref l]) Q E s := by
  obtain ⟨xs, e⟩ := hi.allInts.items
  have hn : numsOf (intItems xs).toList = ns := by rw [← e]; exact hi.numsOf
  rw [nums_intItems] at hn
  rw [e] at hl
  refine PySem.W.ktm_sumG hh hl fun h' tk t' hk => ?_
  have := h h' tk t' hk
  rw [preSum_eq, List.take_of_length_le (by simp), hn]; exact this
end
def rSumT (K : PySem.W.Frag) : List V → Hp → VK → Prop := fun vs H Q => ∃ (a : Addr) (ns : List Int), vs = [V.ref a] ∧ SqT K H a (ns.map V.int) ∧ Q (.int ns.sum) H
theorem cr_sumT {X : Cx} (hc : X.calm = true) : CallR X (.builtin "sum") (rSumT X.K) := by
  intro pins s σ H vs us Q I r h
  obtain ⟨a, ns, rfl, hs, q⟩ := h
  obtain ⟨its, rv, hl, _⟩ := I.tuple hs
  rw [Vals.ref1 r]
  exact sum_rawT (I.ok.hd hc) hl rv.ints fun h' tk t' hk => ⟨.int _, H, I.kept hk, ⟨_, rfl⟩, q⟩
def sumTD (a : D) : Option D := match a with
  | .tup xs => match ints? xs with
    | some is => some (.int is.sum)
    | none => none
  | _ => none
section
variable {g : Gd} {K : PySem.W.Frag}
theorem sim_sumT : Sim1 g (r1c (rSumT K)) sumTD := fun Z H ω x a d Q G ra h hq => by
  cases a <;> first
    | (simp only [sumTD] at h; cases h; done)
    | skip
  rename_i xs
  simp only [sumTD] at h
  cases e : ints? xs with
  | none => rw [e] at h; cases h
  | some is =>
    rw [e] at h; cases h
    obtain ⟨p, vs, rfl, hp, r1⟩ := BR.tup (g := g) ra
    have := ints_of e
    subst this
    rcases r1.ints with e | e
    · subst e
      exact ⟨p, is, rfl, SqT.of hp, hq Z _ H .refl (.int _)⟩
    · exact e.elim
end
section
variable {X : Cx} {B : Bc} {a : Expr} {p pos : Pos} {fa : EM D}
theorem eSumT (hc : X.calm = true) (hb : Bn X.mg) (ha : PE X a (RdB B fa)) (hg : Gl X "sum" := by rfl) (he : starEach [a] X.env = (false, eval a X.env) :: starEach [] X.env := by rfl) (hpl : (backTo pos (starEach [] X.env)).any (·.1) = false := by rfl) :
    PE X (.Call (.Name "sum" p) [a] [] pos) (RdE B (op1 sumTD fa)) := m_op1 sim_sumT (fun ta ha => pe_callB (cr_sumT hc) hg hb.sum (by decide +kernel) (pa_cons ha pa_nil he) (he := he) (hpl := hpl)) ha
end
theorem sumTD_T (xs : List Int) : sumTD (TU xs) = some (.int xs.sum) := by unfold sumTD TU; simp only [ints_map]
end L2.Fl

namespace L2.Fl
open PySem PySem.Spec PyProof.Rows
/-! ### dicts of one's own: {}, d[k], k in d, d[k] = e -/
def keysOf1 : List D → Option (List Key)
  | [] => some []
  | d :: ds => match keyOf d, keysOf1 ds with
    | some k, some ks => some (k :: ks)
    | _, _ => none
def keysOf : D → Option (List Key)
  | .tup ds => keysOf1 ds
  | _ => none
theorem keyOf_kD {d : D} {k : Key} (h : keyOf d = some k) : d = kD k := by
  cases d <;> first
    | (cases h; rfl)
    | cases h
theorem keysOf1_kD : ∀ {ds : List D} {ks : List Key}, keysOf1 ds = some ks → ds = ks.map kD
  | [], _, h => by cases h; rfl
  | d :: ds, ks, h => by
    unfold keysOf1 at h
    split at h
    · rename_i k ks' e1 e2
      cases h
      rw [keyOf_kD e1, keysOf1_kD e2]
      rfl
    · cases h
def sameT (a : D) (k : List Key) : Bool := match keysOf a with
  | some k' => decide (k' = k)
  | none => false
theorem keyOf_of (k : Key) : keyOf (kD k) = some k := by cases k <;> rfl
theorem keysOf1_of : ∀ ks : List Key, keysOf1 (ks.map kD) = some ks
  | [] => rfl
  | k :: ks => by simp only [List.map_cons, keysOf1, keyOf_of, keysOf1_of ks]
theorem sameT_of (k' k : List Key) : sameT (.tup (k'.map kD)) k = decide (k' = k) := by simp only [sameT, keysOf, keysOf1_of]
/-- what is held at a key -/
def valKD (ks : List (D × D)) (k : Key) : Option D := (ks.find? fun kv => sameK kv.1 k).map (·.2)
def valTD (ks : List (D × D)) (k : List Key) : Option D := (ks.find? fun kv => sameT kv.1 k).map (·.2)
def putTD (ks : List (D × D)) (k : List Key) (d : D) : List (D × D) := if ks.any (fun kv => sameT kv.1 k) then ks.map (fun kv => if sameT kv.1 k then (kv.1, d) else kv) else ks ++ [(.tup (k.map kD), d)]
section
variable {tk : Nat → Option V} {Z : Addr → Prop} {H : Hp}
theorem RK.val {k : Key} : ∀ {ks : List (D × D)} {kvs : List (Key × V)}, RK tk Z H ks kvs → (valKD ks k = none ∧ valV kvs k = none) ∨ ∃ d v, valKD ks k = some d ∧ valV kvs k = some v ∧ RD tk Z H d v
  | _, _, .nil => .inl ⟨rfl, rfl⟩
  | _, _, .cons (k := k') (d := d) (v := v) (ds := ds) (vs := vs) r t => by
    by_cases e : k' = k
    · refine .inr ⟨d, v, ?_, ?_, r⟩
      · simp [valKD, List.find?_cons, sameK_kD, e]
      · simp [valV, List.find?_cons, e]
    · have h1 : valKD ((kD k', d) :: ds) k = valKD ds k := by simp [valKD, List.find?_cons, sameK_kD, e]
      have h2 : valV ((k', v) :: vs) k = valV vs k := by simp [valV, List.find?_cons, e]
      rw [h1, h2]
      exact RK.val t
theorem RT.val {k : List Key} : ∀ {ks : List (D × D)} {kvs : List (List Key × V)}, RT tk Z H ks kvs → (valTD ks k = none ∧ valV kvs k = none) ∨ ∃ d v, valTD ks k = some d ∧ valV kvs k = some v ∧ RD tk Z H d v
  | _, _, .nil => .inl ⟨rfl, rfl⟩
  | _, _, .cons (k := k') (d := d) (v := v) (ds := ds) (vs := vs) r t => by
    by_cases e : k' = k
    · refine .inr ⟨d, v, ?_, ?_, r⟩
      · simp [valTD, List.find?_cons, sameT_of, e]
      · simp [valV, List.find?_cons, e]
    · have h1 : valTD ((.tup (k'.map kD), d) :: ds) k = valTD ds k := by simp [valTD, List.find?_cons, sameT_of, e]
      have h2 : valV ((k', v) :: vs) k = valV vs k := by simp [valV, List.find?_cons, e]
      rw [h1, h2]
      exact RT.val t
theorem RT.any {k : List Key} : ∀ {ks : List (D × D)} {kvs : List (List Key × V)}, RT tk Z H ks kvs → ks.any (fun kv => sameT kv.1 k) = kvs.any fun kv => decide (kv.1 = k)
  | _, _, .nil => rfl
  | _, _, .cons r t => by simp only [List.any_cons, sameT_of, RT.any t]
theorem RT.mapPut {k : List Key} {d : D} {v : V} (r : RD tk Z H d v) : ∀ {ks : List (D × D)} {kvs : List (List Key × V)}, RT tk Z H ks kvs → RT tk Z H (ks.map fun kv => if sameT kv.1 k then (kv.1, d) else kv) (kvs.map fun kv => if kv.1 = k then (kv.1, v) else kv)
  | _, _, .nil => .nil
  | _, _, .cons (k := k') r' t => by
    simp only [List.map_cons, sameT_of]
    by_cases e : k' = k
    · rw [decide_eq_true e, if_pos rfl, if_pos e]
      exact .cons r (RT.mapPut r t)
    · rw [decide_eq_false e, if_neg (by simp), if_neg e]
      exact .cons r' (RT.mapPut r t)
theorem RT.app {k : List Key} {d : D} {v : V} (r : RD tk Z H d v) : ∀ {ks : List (D × D)} {kvs : List (List Key × V)}, RT tk Z H ks kvs → RT tk Z H (ks ++ [(.tup (k.map kD), d)]) (kvs ++ [(k, v)])
  | _, _, .nil => .cons r .nil
  | _, _, .cons r' t => .cons r' (RT.app r t)
theorem RT.put {k : List Key} {d : D} {v : V} {ks : List (D × D)} {kvs : List (List Key × V)} (r : RD tk Z H d v) (t : RT tk Z H ks kvs) : RT tk Z H (putTD ks k d) (putK kvs k v) := by
  unfold putTD putK
  rw [t.any]
  by_cases h : (kvs.any fun kv => decide (kv.1 = k)) = true
  · rw [if_pos h, if_pos h]; exact RT.mapPut r t
  · rw [if_neg h, if_neg h]; exact RT.app r t
theorem rds_keys : ∀ {ks : List Key} {vs : List V}, RDs tk Z H (ks.map kD) vs → vs = ks.map kV
  | [], _, .nil => rfl
  | k :: ks, _, .cons r rr => by rw [RD.key r (keyOf_of k), rds_keys rr]; rfl
end
def dlook (a b : D) : Option (Option D) := match a with
  | .dct ks => (keyOf b).map fun k => valKD ks k
  | .dctT ks => (keysOf b).map fun k => valTD ks k
  | .dctF ks => (keyOf b).map fun k => valKD ks k
  | .dctG ks => (keysOf b).map fun k => valTD ks k
  | _ => none
def dgetD (a b : D) : Option D := match dlook a b with
  | some r => r
  | none => none
def dinD (b a : D) : Option D := (dlook a b).map fun r => .bl r.isSome
def dnotinD (b a : D) : Option D := (dlook a b).map fun r => .bl (!r.isSome)
def rDGet : R2 := fun x y H Q => ∃ a v, x = .ref a ∧ DGet H a y (some v) ∧ Q v H
def rDIn : R2 := fun y x H Q => ∃ a o, x = .ref a ∧ DGet H a y o ∧ Q (.bl o.isSome) H
def rDNotIn : R2 := fun y x H Q => ∃ a o, x = .ref a ∧ DGet H a y o ∧ Q (.bl (!o.isSome)) H
section
variable {g : Gd}
theorem br_key {Z : Addr → Prop} {H : Hp} {d : D} {v : V} {k : Key} (r : BR g Z H d v) (h : keyOf d = some k) : v = kV k := by
  rcases r with r | ⟨p, rfl, _, ro⟩
  · exact r.key h
  · rw [keyOf_kD h] at ro
    cases k <;> cases ro
theorem br_keys {Z : Addr → Prop} {H : Hp} {d : D} {v : V} {k : List Key} (r : BR g Z H d v) (h : keysOf d = some k) : ∃ b, v = .ref b ∧ H b = some (.tup (k.map kV)) := by
  cases d with
  | tup ds =>
    obtain ⟨p, vs, rfl, hp, rs⟩ := r.tup
    have e : ds = k.map kD := keysOf1_kD h
    subst e
    rw [rds_keys rs] at hp
    exact ⟨p, rfl, hp⟩
  | _ => cases h
/-- the dict's answer -/
theorem dget_br {Z : Addr → Prop} {H : Hp} {a b : D} {x y : V} (ra : BR g Z H a x) (rb : BR g Z H b y) {r : Option D} (h : dlook a b = some r) : ∃ p o, x = .ref p ∧ DGet H p y o ∧ ((r = none ∧ o = none) ∨ ∃ d v, r = some d ∧ o = some v ∧ RD g.tk Z H d v) := by
  cases a with
  | dct ks =>
    obtain ⟨p, rfl, kvs, h1, h2⟩ := ra.dct
    obtain ⟨k, e1, e2⟩ := Option.map_eq_some_iff.mp h
    subst e2
    rw [br_key rb e1]
    refine ⟨p, _, rfl, DGet.k h1, ?_⟩
    rcases h2.val (k := k) with ⟨q1, q2⟩ | ⟨d, v, q1, q2, q3⟩
    · exact .inl ⟨q1, q2⟩
    · exact .inr ⟨d, v, q1, q2, q3⟩
  | dctT ks =>
    obtain ⟨p, rfl, kvs, h1, h2⟩ := ra.dctT
    obtain ⟨k, e1, e2⟩ := Option.map_eq_some_iff.mp h
    subst e2
    obtain ⟨b', rfl, hb⟩ := br_keys rb e1
    refine ⟨p, _, rfl, DGet.t h1 hb, ?_⟩
    rcases h2.val (k := k) with ⟨q1, q2⟩ | ⟨d, v, q1, q2, q3⟩
    · exact .inl ⟨q1, q2⟩
    · exact .inr ⟨d, v, q1, q2, q3⟩
  | dctF ks =>
    obtain ⟨p, kvs, o, rfl, _, h1, h2⟩ := ra.dctF
    obtain ⟨k, e1, e2⟩ := Option.map_eq_some_iff.mp h
    subst e2
    rw [br_key rb e1]
    refine ⟨p, _, rfl, .inl ⟨kvs, k, .inr ⟨o, h1⟩, rfl, rfl⟩, ?_⟩
    rcases h2.val (k := k) with ⟨q1, q2⟩ | ⟨d, v, q1, q2, q3⟩
    · exact .inl ⟨q1, q2⟩
    · exact .inr ⟨d, v, q1, q2, q3⟩
  | dctG ks =>
    obtain ⟨p, kvs, o, rfl, _, h1, h2⟩ := ra.dctG
    obtain ⟨k, e1, e2⟩ := Option.map_eq_some_iff.mp h
    subst e2
    obtain ⟨b', rfl, hb⟩ := br_keys rb e1
    refine ⟨p, _, rfl, .inr ⟨kvs, k, b', .inr ⟨o, h1⟩, rfl, hb, rfl⟩, ?_⟩
    rcases h2.val (k := k) with ⟨q1, q2⟩ | ⟨d, v, q1, q2, q3⟩
    · exact .inl ⟨q1, q2⟩
    · exact .inr ⟨d, v, q1, q2, q3⟩
  | _ => cases h
theorem sim_dget : Sim2 g rDGet dgetD := fun Z H ω x y a b d Q G ra rb h hq => by
  unfold dgetD at h
  cases e : dlook a b with
  | none => rw [e] at h; cases h
  | some r =>
    rw [e] at h
    obtain ⟨p, o, rfl, hd, q⟩ := dget_br ra rb e
    rcases q with ⟨z, _⟩ | ⟨d', v, z, rfl, r⟩
    · rw [z] at h; cases h
    · rw [z] at h; cases h
      exact ⟨p, v, rfl, hd, hq Z _ H .refl r⟩
theorem sim_din : Sim2 g rDIn dinD := fun Z H ω y x b a d Q G rb ra h hq => by
  obtain ⟨r, e, rfl⟩ := Option.map_eq_some_iff.mp h
  obtain ⟨p, o, rfl, hd, q⟩ := dget_br ra rb e
  refine ⟨p, o, rfl, hd, ?_⟩
  rcases q with ⟨rfl, rfl⟩ | ⟨d', v, rfl, rfl, _⟩
  · exact hq Z _ H .refl (.bl _)
  · exact hq Z _ H .refl (.bl _)
theorem sim_dnotin : Sim2 g rDNotIn dnotinD := fun Z H ω y x b a d Q G rb ra h hq => by
  obtain ⟨r, e, rfl⟩ := Option.map_eq_some_iff.mp h
  obtain ⟨p, o, rfl, hd, q⟩ := dget_br ra rb e
  refine ⟨p, o, rfl, hd, ?_⟩
  rcases q with ⟨rfl, rfl⟩ | ⟨d', v, rfl, rfl, _⟩
  · exact hq Z _ H .refl (.bl _)
  · exact hq Z _ H .refl (.bl _)
end
section
variable {X : Cx} {B : Bc} {a b : Expr} {pos : Pos} {fa fb : EM D} {k : Nat}
theorem room1 (hr : Room k X.A) : X.A.units + 1 < cLine := by have := hr.un; omega
theorem eDGet (hr : Room k X.A) (ha : PE X a (RdB B fa)) (hb : PE X b (RdB B fb)) (hs : NoSl b) : PE X (.Subscript a b pos) (RdE B (op2 dgetD fa fb)) := m_op2 sim_dget (fun ta tb ha hb => pe_dget (room1 hr) ha hb hs) ha hb
theorem pc_rDIn (hr : Room k X.A) : OpR X (compareOp .In) rDIn := fun pins s σ H y x v u Q I ry rx ⟨a, o, e, hd, q⟩ => by
  subst e
  obtain rfl : u = Value.ref a := rx
  exact d_in (room1 hr) I hd ry fun s3 I3 => ⟨.bl o.isSome, H, I3, rfl, q⟩
theorem pc_rDNotIn (hr : Room k X.A) : OpR X (compareOp .NotIn) rDNotIn := fun pins s σ H y x v u Q I ry rx ⟨a, o, e, hd, q⟩ => by
  subst e
  obtain rfl : u = Value.ref a := rx
  exact d_notIn (room1 hr) I hd ry fun s3 I3 => ⟨.bl (!o.isSome), H, I3, rfl, q⟩
theorem tDIn1 (hr : Room k X.A) (ha : PE X a (RdB B fa)) (hb : PE X b (RdB B fb)) (hm : behindInMarks .In b = false := by rfl) : PT X (.Compare a [.In] [b] pos) (RdT B (asB (op2 dinD fa fb))) := m_tcmp sim_din (pc_rDIn hr) ha hb hm
theorem tDNotIn1 (hr : Room k X.A) (ha : PE X a (RdB B fa)) (hb : PE X b (RdB B fb)) (hm : behindInMarks .NotIn b = false := by rfl) : PT X (.Compare a [.NotIn] [b] pos) (RdT B (asB (op2 dnotinD fa fb))) := m_tcmp sim_dnotin (pc_rDNotIn hr) ha hb hm
theorem eDIn (hr : Room k X.A) (ha : PE X a (RdB B fa)) (hb : PE X b (RdB B fb)) (hm : behindInMarks .In b = false := by rfl) : PE X (.Compare a [.In] [b] pos) (RdE B (op2 dinD fa fb)) := m_cmp sim_din (pc_rDIn hr) ha hb hm
theorem eDNotIn (hr : Room k X.A) (ha : PE X a (RdB B fa)) (hb : PE X b (RdB B fb)) (hm : behindInMarks .NotIn b = false := by rfl) : PE X (.Compare a [.NotIn] [b] pos) (RdE B (op2 dnotinD fa fb)) := m_cmp sim_dnotin (pc_rDNotIn hr) ha hb hm
end
/-! a new dict, a store into one's own -/
def newKS (i : Nat) : SM := fun ρ ω => .nx (ρ.set i (.own (.dct []))) ω
def newTS (i : Nat) : SM := fun ρ ω => .nx (ρ.set i (.own (.dctT []))) ω
section
variable {X : Cx} {B : Bc} {st : Stmt}
theorem s_newK {i : Nat} (h : PS X st (tAsg tDNewK (gName i))) : PS X st (RdS B (newKS i)) := PS.imp h fun D σ H ⟨Z, ρ, ω, j, q⟩ => by
  intro p hp
  obtain ⟨n1, n2, n3, n5, n4⟩ := fresh_of j hp
  have gr : Grow B.g Z H Z (upd H p (.dK [])) := grow_new0 hp
  exact q Z _ _ (.of j.good gr.sub gr.ext) ((j.grow gr).setOwn (.dK upd_same .nil) n1 n2 n3 n5 n4)
theorem s_newT {i : Nat} (h : PS X st (tAsg tDNewT (gName i))) : PS X st (RdS B (newTS i)) := PS.imp h fun D σ H ⟨Z, ρ, ω, j, q⟩ => by
  intro p hp
  obtain ⟨n1, n2, n3, n5, n4⟩ := fresh_of j hp
  have gr : Grow B.g Z H Z (upd H p (.dT [])) := grow_new0 hp
  exact q Z _ _ (.of j.good gr.sub gr.ext) ((j.grow gr).setOwn (.dT upd_same .nil) n1 n2 n3 n5 n4)
end
def dputD (x k d : D) : Option D := match x with
  | .dct ks => (match keyOf k with
    | some kk => if ks.length < LIM then some (.dct (putKD ks kk d)) else none
    | none => none)
  | .dctT ks => (match keysOf k with
    | some kk => if ks.length < LIM then some (.dctT (putTD ks kk d)) else none
    | none => none)
  | _ => none
def dputS (i : Nat) (k f : EM D) : SM := fun ρ ω => (f ρ ω).stm fun d ρ ω => match ρ[i]? with
  | some (.own _) => (k ρ ω).stm fun n ρ ω => match ρ[i]? with
    | some (.own x) => (match dputD x n d with
      | some x' => .nx (ρ.set i (.own x')) ω
      | none => .bad)
    | _ => .bad
  | _ => .bad
section
variable {X : Cx} {B : Bc} {st : Stmt}
theorem i_dput {i : Nat} {k f : EM D} : ∀ D σ H, RdS B (dputS i k f) D σ H → sDPut (tVar i) (RdE B k) (RdE B f) D σ H := fun D σ H ⟨Z, ρ, ω, j, q⟩ => by
  refine ⟨Z, ρ, ω, j, ?_⟩
  unfold dputS at q
  cases ea : f ρ ω with
  | bad => simp only [ea, Out.stm] at q; exact q
  | exc c ω' => simp only [ea, Out.stm] at q; exact q
  | ok d ρ1 ω1 =>
    simp only [ea, Out.stm] at q
    intro Z1 v H1 e1 z1 j1 r1
    split at q
    · rename_i x0 ei
      obtain ⟨p, h1, _⟩ := j1.own i _ ei
      refine ⟨.ref p, h1, Z1, ρ1, ω1, j1, ?_⟩
      cases eb : k ρ1 ω1 with
      | bad => simp only [eb] at q; exact q.elim
      | exc c ω' => simp only [eb] at q; exact q
      | ok n ρ2 ω2 =>
        simp only [eb] at q
        intro Z2 y H2 e2 z2 j2 r2
        split at q
        · rename_i x ei2
          split at q
          · rename_i x' ex
            obtain ⟨p', g1, ro, g4, _⟩ := j2.own i _ ei2
            rw [h1] at g1
            cases g1
            have r1' := r1.ext j1.good z2 e2
            have kk : ∀ o : HO, Kp Z H Z2 (upd H2 p o) := fun o => (Kp.of j.good z1 e1).trans ((Kp.of j1.good z2 e2).trans (kp_upd g4 ro.nt))
            cases x with
            | dct ks =>
              simp only [dputD] at ex
              cases ek : keyOf n with
              | none => rw [ek] at ex; cases ex
              | some key =>
                rw [ek] at ex
                simp only at ex
                split at ex
                · rename_i hl
                  cases ex
                  cases ro with
                  | dK hp rk =>
                    rename_i kvs
                    have := r2.key ek
                    subst this
                    refine ⟨p, _, rfl, DPut.k hp (by rw [← rk.length, ← lim_eq]; exact hl), q Z2 σ _ (kk _) (j2.mut ei2 h1 (.dK upd_same ?_) fix_dK)⟩
                    exact (rk.put r1').mono (fun _ z => z) (kp_upd (o := .dK (putK kvs key v)) g4).keep
                · cases ex
            | dctT ks =>
              simp only [dputD] at ex
              cases ek : keysOf n with
              | none => rw [ek] at ex; cases ex
              | some key =>
                rw [ek] at ex
                simp only at ex
                split at ex
                · rename_i hl
                  cases ex
                  cases ro with
                  | dT hp rk =>
                    rename_i kvs
                    obtain ⟨b, rfl, hb⟩ := br_keys (g := B.g) (.inl r2) ek
                    refine ⟨p, _, rfl, DPut.t hp hb (by rw [← rk.length, ← lim_eq]; exact hl), q Z2 σ _ (kk _) (j2.mut ei2 h1 (.dT upd_same ?_) fix_dT)⟩
                    exact (rk.put r1').mono (fun _ z => z) (kp_upd (o := .dT (putK kvs key v)) g4).keep
                · cases ex
            | _ => cases ex
          · exact q.elim
        · exact q.elim
    · exact q.elim
theorem s_dput {i : Nat} {k f : EM D} (h : PS X st (sDPut (tVar i) (RdE B k) (RdE B f))) : PS X st (RdS B (dputS i k f)) := PS.imp h i_dput
end
end L2.Fl

namespace L2.Fl
open PySem PySem.Spec PyProof.Rows
/-! ### a dict of one's own frozen for good: read, walked, never changed again -/
/-- the statement runs after the thing at d has been locked -/
def tFreeze (t : TS) : TS := fun D σ H => ∃ d u, H d = some u ∧ Mut (some u) ∧ ∀ od, t D σ (upd H d (.frz od u))
theorem ps_freeze {X : Cx} {st : Stmt} {t : TS} (h : PS X st t) : PS X st (tFreeze t) := by
  refine ⟨fun pins s σ H D I hw => ?_⟩
  obtain ⟨d, u, hd, mu, hw⟩ := hw
  obtain ⟨od, I1⟩ := I.lock hd mu
  exact h.run pins s σ _ _ I1 (hw od)
/-- the own dict at i becomes a frozen value -/
def frzD : D → Option D
  | .dct ks => some (.dctF ks)
  | .dctT ks => some (.dctG ks)
  | _ => none
def frzDS (i : Nat) (s : SM) : SM := fun ρ ω => match ρ[i]? with
  | some (.own d) => (match frzD d with
    | some d' => s (ρ.set i (.val d')) ω
    | none => .bad)
  | _ => .bad
section
variable {X : Cx} {B : Bc} {st : Stmt}
theorem s_frzD {i : Nat} {s : SM} (h : PS X st (RdS B s)) : PS X st (RdS B (frzDS i s)) := PS.imp (ps_freeze h) fun En σ H ⟨Z, ρ, ω, j, q⟩ => by
  unfold frzDS at q
  split at q
  · rename_i d ei
    split at q
    · rename_i d' ed
      obtain ⟨p, h1, ro, nz, np, h0, nr⟩ := j.own i _ ei
      have hi : i < ρ.length := (List.getElem?_eq_some_iff.mp ei).1
      have hs : σ.set i (some (.ref p)) = σ := by
        refine List.ext_getElem? fun k => ?_
        by_cases c : i = k
        · subst c
          rw [List.getElem?_set_self (List.getElem?_eq_some_iff.mp h1).1, h1]
        · rw [List.getElem?_set_ne c]
      have j1 : J B Z (ρ.set i .no) σ H ω := J.unset (ix := i) (v := some (.ref p)) (by rw [hs]; exact j)
      have hn : ∀ (k : Nat) (e : D), (ρ.set i .no)[k]? = some (.own e) → σ[k]? ≠ some (some (.ref p)) := fun k e ek hk => by
        by_cases c : i = k
        · subst c
          rw [List.getElem?_set_self hi] at ek
          cases ek
        · rw [List.getElem?_set_ne c] at ek
          exact c (j.sep i k _ _ p ei ek h1 hk)
      have go : ∀ (u : HO) (v : D), H p = some u → Mut (some u) → Fix u → (∀ phi, u ≠ .ext phi) → (∀ us, u ≠ .tup us) → frzD d = some v → (∀ (od : Obj) (Z' : Addr → Prop) (H' : Hp), Z' p → Kp Z H Z' H' → H' p = some (.frz od u) → RD B.g.tk Z' H' v (.ref p)) → Post B En Z H (s (ρ.set i (.val v)) ω) → tFreeze (RdS B s) En σ H := fun u v hp mu fu nx nt ev hr q => by
        refine ⟨p, u, hp, mu, fun od => ?_⟩
        have ff : Fix (.frz od u) := fun ps z => by cases z
        have j2 : J (B.blk (· = p)) Z (ρ.set i .no) σ H ω := j1.toBlk fun q hq => by
          subst hq
          exact ⟨nz, by rw [hp]; simp, hn⟩
        have j3 := j2.updR (p := p) (o := .frz od u) (.inr rfl) h0 np hp fu nx nt
        have j4 : J B Z (ρ.set i .no) σ (upd H p (.frz od u)) ω := j3.ofBlk0
        have j5 := j4.adopt upd_same ff np h0 nr hn
        have kp : Kp Z H (fun q => Z q ∨ q = p) (upd H p (.frz od u)) := ⟨fun _ z => .inl z, (kp_upd nz fun us z => by rw [hp] at z; cases z; exact nt us rfl).keep⟩
        have j6 := j5.setVal (i := i) (hr od _ _ (.inr rfl) kp upd_same)
        rw [List.set_set, hs] at j6
        exact ⟨_, _, ω, j6, q.kp kp⟩
      cases ro with
      | dK hp rk => exact go _ _ hp True.intro fix_dK (fun _ z => by cases z) (fun _ z => by cases z) ed (fun od Z' H' zp kp h' => by
          cases ed
          exact .dctF zp h' (rk.mono kp.sub kp.keep)) q
      | dT hp rk => exact go _ _ hp True.intro fix_dT (fun _ z => by cases z) (fun _ z => by cases z) ed (fun od Z' H' zp kp h' => by
          cases ed
          exact .dctG zp h' (rk.mono kp.sub kp.keep)) q
      | lst hp rs => cases ed
    · exact q.elim
  · exact q.elim
end
end L2.Fl

namespace L2.Fl
open PySem PySem.Spec PyProof.Rows
/-! ### the keys of a frozen dict, whole numbers and texts as keys -/
def keysI (f : EM D) : EM (List D) := fun ρ ω => (f ρ ω).andThen fun d => optM (match d with
  | .dctF ks => some (ks.map (·.1))
  | _ => none)
section
variable {B : Bc} {K : PySem.W.Frag} {X : Cx} {tg iter : Expr}
theorem RK.keys {tk : Nat → Option V} {Z : Addr → Prop} {H : Hp} {i : Nat} : ∀ {ks : List (D × D)} {kvs : List (Key × V)} {k : Key} {v : V}, RK tk Z H ks kvs → ∀ i : Nat, kvs[i]? = some (k, v) → (ks.map (·.1))[i]? = some (kD k)
  | _, _, _, _, .nil, i, h => by simp at h
  | _, _, _, _, .cons r t, 0, h => by simp at h; simp [h.1]
  | _, _, _, _, .cons r t, i + 1, h => by
    simp only [List.getElem?_cons_succ, List.map_cons] at h ⊢
    exact RK.keys (i := i) t i h
theorem rd_key {tk : Nat → Option V} {Z : Addr → Prop} {H : Hp} (k : Key) : RD tk Z H (kD k) (kV k) := by
  cases k with
  | inl i => exact .int i
  | inr s => exact .str s
theorem wk_keys {g : Gd} {R : (Addr → Prop) → Hp → Prop} {p : Addr} {o : Obj} {ks : List (D × D)} {kvs : List (Key × V)} (hl : ks.length = kvs.length) (hG : ∀ Z H, R Z H → H p = some (.frz o (.dK kvs))) (hr : ∀ Z H, R Z H → RK g.tk Z H ks kvs) : Wk g R (Itk p o kvs) (ks.map (·.1)) :=
  ⟨_, _, by rw [List.length_map, hl]; exact walk_keys, hG, fun i H x H' Z ω hi k r y => by
    obtain ⟨rfl, kk, v, e, rfl⟩ := y
    exact ⟨Z, kD kk, .refl, (hr Z _ r).keys (i := i) i e, rd_key kk⟩⟩
theorem w_keys {f : EM D} (h : PE X iter (RdE B f)) : PI X tg iter (RdI B (keysI f)) := PI.imp (pi_keys h) fun σ H R ⟨Z, ρ, ω, j, q⟩ => by
  refine ⟨Z, ρ, ω, j, ?_⟩
  unfold keysI at q
  cases ea : f ρ ω with
  | bad => simp only [ea, Out.andThen] at q
  | exc c ω' => simp only [ea, Out.andThen] at q; exact q
  | ok d ρ1 ω1 =>
    simp only [ea, Out.andThen, optM] at q
    intro Z1 v H1 e1 z1 j1 r1
    cases d with
    | dctF ks =>
      simp only at q
      obtain ⟨p, kvs, o, rfl, zp, hp, rk⟩ := BR.dctF (g := B.g) (.inl r1)
      exact ⟨p, o, rfl, .inl ⟨kvs, hp, q Z1 H1 _ e1 z1 j1 (wk_keys rk.length (fun Z H r => r.keep _ _ (.inl zp) hp) fun Z H r => rk.mono r.sub r.keep)⟩⟩
    | _ => simp only at q
end
end L2.Fl

namespace L2.Fl
open PySem PySem.Spec PyProof.Rows
/-! ### small closed lemmas about the mirrors, used as terms -/
def mx (a b : Int) : Int := if b > a then b else a
def mn (a b : Int) : Int := if b < a then b else a
theorem max2D_m (a b : Int) : max2D (.int a) (.int b) = some (.int (mx a b)) := rfl
theorem min2D_m (a b : Int) : min2D (.int a) (.int b) = some (.int (mn a b)) := rfl
theorem minDD_L {xs : List Int} (h : xs ≠ []) : ∃ m ∈ xs, (∀ x ∈ xs, m ≤ x) ∧ minDD (L xs) = some (.int m) := by
  cases xs with
  | nil => exact absurd rfl h
  | cons x xs =>
    have hm := bestD_mem (fun a y => ltd y a) (xs.map D.int) (.int x)
    have ht := minD_top (.int x) (xs.map D.int)
    rw [← List.map_cons (f := D.int)] at hm ht
    obtain ⟨m, m1, m2⟩ := List.mem_map.mp hm
    refine ⟨m, m1, fun y hy => ?_, ?_⟩
    · have := ht (.int y) (List.mem_map_of_mem hy)
      rw [← m2, ltd_int] at this
      simpa using this
    · unfold minDD bestOf
      have h1 : (okDs ((x :: xs).map D.int) 8 && alikeD ((x :: xs).map D.int)) = true := by
        rw [okDs_ints, alikeD_ints]; rfl
      simp only [items?, List.map_cons] at h1 ⊢
      rw [if_pos h1, m2]
theorem maxDD_L {xs : List Int} (h : xs ≠ []) : ∃ m ∈ xs, (∀ x ∈ xs, x ≤ m) ∧ maxDD (L xs) = some (.int m) := by
  cases xs with
  | nil => exact absurd rfl h
  | cons x xs =>
    have hm := bestD_mem (fun a y => ltd a y) (xs.map D.int) (.int x)
    have ht := maxD_top (.int x) (xs.map D.int)
    rw [← List.map_cons (f := D.int)] at hm ht
    obtain ⟨m, m1, m2⟩ := List.mem_map.mp hm
    refine ⟨m, m1, fun y hy => ?_, ?_⟩
    · have := ht (.int y) (List.mem_map_of_mem hy)
      rw [← m2, ltd_int] at this
      simpa using this
    · unfold maxDD bestOf
      have h1 : (okDs ((x :: xs).map D.int) 8 && alikeD ((x :: xs).map D.int)) = true := by
        rw [okDs_ints, alikeD_ints]; rfl
      simp only [items?, List.map_cons] at h1 ⊢
      rw [if_pos h1, m2]
abbrev pl (p : Int × Int) : D := .tup [.int p.1, .int p.2]
theorem pairUp_ints (M W : List Int) : pairUp (M.map D.int) (W.map D.int) = (M.zip W).map pl := by
  unfold pairUp
  rw [List.zip_map, List.map_map]
  rfl
theorem rangeI_split (lo : Int) (a b : Nat) : rangeI lo (a + 1 + b) = rangeI lo a ++ (lo + a) :: rangeI (lo + a + 1) b := by
  unfold rangeI
  rw [Nat.add_assoc, List.range_add, List.map_append, Nat.add_comm 1 b, List.range_succ_eq_map]
  simp only [List.map_cons, List.map_map]
  congr 2
  refine List.map_congr_left fun i _ => ?_
  simp only [Function.comp]
  omega
theorem first_ok {p : Int → Bool} {lo M : Int} {N : Nat} (h : ∀ n, lo ≤ n → n < lo + N → p n = decide (M ≤ n)) (h1 : lo ≤ M) (h2 : M < lo + N) : ∃ t, (rangeI lo N).filter p = M :: t := by
  obtain ⟨a, b, e, ea⟩ : ∃ a b : Nat, N = a + 1 + b ∧ lo + a = M := ⟨(M - lo).toNat, (lo + N - M - 1).toNat, by omega, by omega⟩
  subst e
  rw [rangeI_split, List.filter_append, ea]
  have e1 : (rangeI lo a).filter p = [] := by
    rw [List.filter_eq_nil_iff]
    intro n hn
    obtain ⟨n1, n2⟩ := mem_rangeI.mp hn
    rw [h n n1 (by omega)]
    simp; omega
  have e2 : p M = true := by rw [h M h1 h2]; simp
  rw [e1, List.filter_cons, if_pos e2]
  exact ⟨_, rfl⟩
theorem rangeI_succ (n : Nat) : rangeI 0 (n + 1) = rangeI 0 n ++ [(n : Int)] := by
  have := rangeI_split 0 n 0
  rw [Nat.add_zero] at this
  rw [this]
  simp [rangeI]
theorem rollsL_ok {c i : Nat} {m : Int} {it : EM (List D)} {ρ : Fr} {ω ω1 : W3} {ds : List D} (h : it ρ ω = .ok ds ρ ω1) (hi : ρ[i]? = some (.val (.tok 0))) (hc : c ≠ i) (hn : isOwn ρ[c]? = false) (hl : ds.length ≤ 1000) (h0 : 0 < m) (h1 : m < 1073741824) :
    ∃ (is : List Int) (ω' : W3), lcM [c] it (nmT c) yesT (callM fM_n_law_roll 2 (consM (vr i) (consM (kk (.int m)) nilM))) ρ ω = .ok (is.map D.int) ρ ω' ∧ is.length = ds.length ∧ ∀ v ∈ is, 0 ≤ v ∧ v < m := by
  obtain ⟨xs, ω', e, hp, hlen⟩ := lc_roll (c := c) (te := callM fM_n_law_roll 2 (consM (vr i) (consM (kk (.int m)) nilM))) (fun d => ∃ v, d = D.int v ∧ (0 ≤ v ∧ v < m)) h hn (by unfold LIM; omega) (fun d _ ω => by
    obtain ⟨v, ω3, e, a, b⟩ := roll_ok (i := i) (m := m) (ρ := ρ.set c (.val d)) (ω := ω) (by rw [List.getElem?_set_ne hc]; exact hi) h0 h1
    exact ⟨_, ω3, e, v, rfl, a, b⟩)
  obtain ⟨is, rfl, hq⟩ := ints_of_all hp
  exact ⟨is, ω', e, by simpa using hlen, hq⟩
theorem rolls1_ok {c i : Nat} {m : Int} {it : EM (List D)} {ρ : Fr} {ω ω1 : W3} {ds : List D} (h : it ρ ω = .ok ds ρ ω1) (hi : ρ[i]? = some (.val (.tok 0))) (hc : c ≠ i) (hn : isOwn ρ[c]? = false) (hl : ds.length ≤ 1000) (h0 : 0 < m) (h1 : m < 1073741824) :
    ∃ (is : List Int) (ω' : W3), lcM [c] it (nmT c) yesT (op2 addD (kk (.int 1)) (callM fM_n_law_roll 2 (consM (vr i) (consM (kk (.int m)) nilM)))) ρ ω = .ok (is.map D.int) ρ ω' ∧ is.length = ds.length ∧ ∀ v ∈ is, 1 ≤ v ∧ v < m + 1 := by
  obtain ⟨xs, ω', e, hp, hlen⟩ := lc_roll (c := c) (te := op2 addD (kk (.int 1)) (callM fM_n_law_roll 2 (consM (vr i) (consM (kk (.int m)) nilM)))) (fun d => ∃ v, d = D.int v ∧ (1 ≤ v ∧ v < m + 1)) h hn (by unfold LIM; omega) (fun d _ ω => by
    obtain ⟨v, ω3, e, a, b⟩ := roll_ok (i := i) (m := m) (ρ := ρ.set c (.val d)) (ω := ω) (by rw [List.getElem?_set_ne hc]; exact hi) h0 h1
    refine ⟨.int (1 + v), ω3, ?_, 1 + v, rfl, by omega, by omega⟩
    simp only [op2, kk, e, Out.andThen, optM, addD_i])
  obtain ⟨is, rfl, hq⟩ := ints_of_all hp
  exact ⟨is, ω', e, by simpa using hlen, hq⟩
theorem o2 {h : D → D → Option D} {f g : EM D} {ρ ρ' ρ'' : Fr} {ω ω' ω'' : W3} {x y z : D} (h1 : f ρ ω = .ok x ρ' ω') (h2 : g ρ' ω' = .ok y ρ'' ω'') (h3 : h x y = some z) : op2 h f g ρ ω = .ok z ρ'' ω'' := by simp only [op2, h1, h2, h3, Out.andThen, optM]
theorem o1 {h : D → Option D} {f : EM D} {ρ ρ' : Fr} {ω ω' : W3} {x z : D} (h1 : f ρ ω = .ok x ρ' ω') (h3 : h x = some z) : op1 h f ρ ω = .ok z ρ' ω' := by simp only [op1, h1, h3, Out.andThen, optM]
theorem aB {f : EM D} {ρ ρ' : Fr} {ω ω' : W3} {b : Bool} (h : f ρ ω = .ok (.bl b) ρ' ω') : asB f ρ ω = .ok b ρ' ω' := by simp only [asB, h, Out.andThen]
theorem fz {f : EM (List D)} {ρ ρ' : Fr} {ω ω' : W3} {ds : List D} (h : f ρ ω = .ok ds ρ' ω') : frz f ρ ω = .ok (.lst ds) ρ' ω' := by simp only [frz, h, Out.andThen]
theorem roll_str (x : Str) (h : SeqAt.shaped (.str x) = true) : neD (.str x) (.str x) = some (.bl false) := neD_self (by simp only [okD]; exact h)
theorem ifN {c : EM Bool} {s : SM} {ρ ρ' : Fr} {ω ω' : W3} (h : c ρ ω = .ok false ρ' ω') : ifS c s skipS ρ ω = .nx ρ' ω' := by simp only [ifS, h, Out.stm, Bool.false_eq_true, if_false, skipS]
theorem sS {i : Nat} {f : EM D} {ρ ρ' : Fr} {ω ω' : W3} {d : D} (h : f ρ ω = .ok d ρ' ω') : setS i f ρ ω = .nx (ρ'.set i (.val d)) ω' := by simp only [setS, h, Out.stm]
theorem cC {fm : FM} {n : Nat} {f : EM (List D)} {ρ ρ' : Fr} {ω ω' ω'' : W3} {ds : List D} {d : D} (h : f ρ ω = .ok ds ρ' ω') (h2 : fm ds ω' = .ok d ω'') (hn : ds.length = n) : callM fm n f ρ ω = .ok d ρ' ω'' := by
  subst hn
  simp only [callM, h, Out.andThen, h2, if_true]
theorem okT2 (xs : List Int) (i : Int) : okD (.tup [TU xs, .int i]) 8 = true := by simp only [okD, okDs, okDs_ints, Bool.and_self]
theorem okT3 (xs : List Int) (i j : Int) : okD (.tup [TU xs, .int i, .int j]) 8 = true := by simp only [okD, okDs, okDs_ints, Bool.and_self]
theorem cA {f : EM D} {g : EM (List D)} {ρ ρ' ρ'' : Fr} {ω ω' ω'' : W3} {x : D} {xs : List D} (h1 : f ρ ω = .ok x ρ' ω') (h2 : g ρ' ω' = .ok xs ρ'' ω'') : consM f g ρ ω = .ok (x :: xs) ρ'' ω'' := by simp only [consM, h1, h2, Out.andThen]
theorem tM {f : EM (List D)} {ρ ρ' : Fr} {ω ω' : W3} {xs : List D} (h : f ρ ω = .ok xs ρ' ω') (hl : xs.length ≤ LIM) : tupM f ρ ω = .ok (.tup xs) ρ' ω' := by simp only [tupM, h, Out.andThen, hl, if_true]
theorem aS {t : TM} {f : EM D} {ρ ρ' ρ'' : Fr} {ω ω' : W3} {d : D} (h : f ρ ω = .ok d ρ' ω') (h2 : t d ρ' = some ρ'') : asgS t f ρ ω = .nx ρ'' ω' := by simp only [asgS, h, h2, Out.stm]
theorem gcd_em (a b : Int) : Int.gcd b (a % b) = Int.gcd a b := by
  have h : a % b + b * (a / b) = a := Int.emod_add_mul_ediv a b
  have := Int.gcd_add_mul_left_right b (a % b) (a / b)
  rw [h] at this
  rw [← this, Int.gcd_comm]
theorem rT {f : EM D} {ρ ρ' : Fr} {ω ω' : W3} {d : D} (h : f ρ ω = .ok d ρ' ω') : rtS f ρ ω = .rt d ω' := by simp only [rtS, h, Out.stm]
theorem sum_rg {α : Type} {f : α → Int} {c : Int} : ∀ {l : List α}, (∀ x ∈ l, 0 ≤ f x ∧ f x ≤ c) → 0 ≤ (l.map f).sum ∧ (l.map f).sum ≤ c * (l.length : Int)
  | [], _ => by simp
  | x :: l, h => by
    have ih := sum_rg fun y hy => h y (List.mem_cons_of_mem _ hy)
    have := h x List.mem_cons_self
    simp only [List.map_cons, List.sum_cons, List.length_cons]
    rw [show (c * ((l.length + 1 : Nat) : Int)) = c * (l.length : Int) + c by rw [show ((l.length + 1 : Nat) : Int) = (l.length : Int) + 1 by omega, Int.mul_add, Int.mul_one]]
    omega
theorem ixN_nat {n k : Nat} (h : k < n) : ixN n (k : Nat) = some k := by
  unfold ixN
  rw [if_pos (by omega), if_pos (by omega)]
  simp
theorem perm_sum {xs ys : List Int} (h : xs.Perm ys) : xs.sum = ys.sum := by
  induction h with
  | nil => rfl
  | cons a _ ih => simp [ih]
  | swap a b l => simp only [List.sum_cons]; omega
  | trans _ _ h1 h2 => exact h1.trans h2
theorem sum_at : ∀ (r : List Int), ((List.range r.length).map fun k : Nat => at' r (k : Nat)).sum = r.sum
  | [] => rfl
  | x :: r => by
    have ih := sum_at r
    rw [List.length_cons, List.range_succ_eq_map, List.map_cons, List.map_map, List.sum_cons, List.sum_cons]
    have e : ((fun k : Nat => at' (x :: r) (k : Nat)) ∘ Nat.succ) = fun k : Nat => at' r (k : Nat) := by
      funext k
      simp [at']
    rw [e, ih]
    simp [at']
theorem set_no {ρ : Fr} {ix : Nat} (h : ρ[ix]? = some .no) : ρ.set ix .no = ρ := by
  refine List.ext_getElem? fun i => ?_
  by_cases c : ix = i
  · subst c
    have hi : ix < ρ.length := (List.getElem?_eq_some_iff.mp h).1
    rw [List.getElem?_set_self hi, h]
  · rw [List.getElem?_set_ne c]
theorem keysM_ok {ix : Nat} {te : EM D} {g : D → D} {ρ : Fr} {ω : W3} (hn : ρ[ix]? = some .no) : ∀ (ds ks : List D), (∀ d ∈ ds, te (ρ.set ix (.val d)) ω = .ok (g d) (ρ.set ix (.val d)) ω) → keysM ix te ds ks ρ ω = .ok (ks ++ ds.map g) ρ ω
  | [], ks, _ => by simp [keysM]
  | d :: ds, ks, h => by
    have e := h d List.mem_cons_self
    simp only [keysM, e, List.set_set, set_no hn]
    rw [keysM_ok hn ds (ks ++ [g d]) fun x hx => h x (List.mem_cons_of_mem _ hx), List.append_assoc]
    rfl
theorem zip_self_map {α : Type} (f : Nat → α) (l : List Nat) : (l.map f).zip l = l.map fun k => (f k, k) := by
  induction l with
  | nil => rfl
  | cons a l ih => simp [ih]
theorem leK_T {f : Nat → D} : ∀ a b c : D × Nat, leK a b = true → leK b c = true → leK a c = true := fun a b c h1 h2 => by
  simp only [leK, leS, cond_false, Bool.not_eq_true'] at *
  exact ltd_le h1 h2
theorem leK_to (a b : D × Nat) : (leK a b || leK b a) = true := by
  simp only [leK, leS, cond_false, Bool.or_eq_true, Bool.not_eq_true']
  cases h : ltd b.1 a.1 with
  | false => exact .inl rfl
  | true => exact .inr (ltd_asymm h)
theorem lF {f : EM (List D)} {ρ ρ' : Fr} {ω ω' : W3} {xs : List D} (h : f ρ ω = .ok xs ρ' ω') (hl : xs.length ≤ LIM) : lstF f ρ ω = .ok xs ρ' ω' := by simp only [lstF, h, Out.andThen, hl, if_true]
theorem oF2 {h : D → D → Option (List D)} {f g : EM D} {ρ ρ' ρ'' : Fr} {ω ω' ω'' : W3} {x y : D} {z : List D} (h1 : f ρ ω = .ok x ρ' ω') (h2 : g ρ' ω' = .ok y ρ'' ω'') (h3 : h x y = some z) : opF2 h f g ρ ω = .ok z ρ'' ω'' := by simp only [opF2, h1, h2, h3, Out.andThen, optM]
theorem oF1 {h : D → Option (List D)} {f : EM D} {ρ ρ' : Fr} {ω ω' : W3} {x : D} {z : List D} (h1 : f ρ ω = .ok x ρ' ω') (h3 : h x = some z) : opF1 h f ρ ω = .ok z ρ' ω' := by simp only [opF1, h1, h3, Out.andThen, optM]
theorem p2 {i k : Nat} {f : EM (List D)} {g : EM D} {ρ ρ' ρ'' : Fr} {ω ω' ω'' : W3} {xs : List D} {y : D} (h1 : f ρ ω = .ok xs ρ' ω') (h2 : g ρ' ω' = .ok y ρ'' ω'') : par2 i k (consO (lstD f) (consX g nilX)) ρ ω = .nx ((ρ''.set i (.own (.lst xs))).set k (.val y)) ω'' := by
  simp only [par2, consO, lstD, consX, nilX, h1, h2, Out.andThen, Out.stm, setMV]
theorem rep_flat : ∀ n : Nat, (List.replicate n [D.int 0]).flatten = (List.replicate n (0 : Int)).map D.int
  | 0 => rfl
  | n + 1 => by rw [List.replicate_succ, List.flatten_cons, rep_flat n, List.replicate_succ]; rfl
theorem rep0 {n : Nat} (h : n ≤ 1000) : repF (.lst [.int 0]) (.int (n : Nat)) = some ((List.replicate n (0 : Int)).map D.int) := by
  unfold repF
  have c1 : (decide (((n : Nat) : Int) < 9223372036854775808) && decide (-9223372036854775808 ≤ ((n : Nat) : Int)) && decide ([D.int 0].length * ((n : Nat) : Int).toNat ≤ LIM)) = true := by
    simp only [Bool.and_eq_true, decide_eq_true_eq, List.length_cons, List.length_nil]
    unfold LIM
    omega
  show (if _ then some (List.replicate ((n : Nat) : Int).toNat [D.int 0]).flatten else none) = _
  rw [if_pos c1, Int.toNat_natCast, rep_flat]
theorem lenD_T (r : List Int) : lenD (TU r) = some (.int (r.length : Nat)) := by simp [lenD, items?]
abbrev NL (l : List Nat) : D := .lst (l.map fun k : Nat => D.int (k : Nat))
theorem rg_nat {n : Nat} (h : n ≤ 1000) : rgD (.int (n : Nat)) = some ((List.range n).map fun k : Nat => D.int (k : Nat)) := by
  have hk : rgOk ((n : Nat) : Int) = true := rgOk_small (by omega) (by omega)
  have : decide (((n : Nat) : Int).toNat ≤ LIM) = true := by
    rw [Int.toNat_natCast]
    exact decide_eq_true (by unfold LIM; omega)
  show (if (rgOk ((n : Nat) : Int) && decide (((n : Nat) : Int).toNat ≤ LIM)) = true then some (rangeL 0 ((n : Nat) : Int).toNat) else none) = _
  rw [hk, this, Int.toNat_natCast, rangeL_nat]
  rfl
theorem sum_rep (v : Int) : ∀ n : Nat, (List.replicate n v).sum = (n : Int) * v
  | 0 => by simp
  | n + 1 => by
    rw [List.replicate_succ, List.sum_cons, sum_rep v n, show ((n + 1 : Nat) : Int) = (n : Int) + 1 by omega, Int.add_mul, Int.one_mul]
    omega
theorem ext_at {xs : List Int} {f : Nat → Int} (h : ∀ k, k < xs.length → at' xs (k : Nat) = f k) : xs = (List.range xs.length).map f := by
  refine List.ext_getElem (by simp) fun k h1 h2 => ?_
  have := h k h1
  simp only [at', Int.toNat_natCast, List.getD_eq_getElem?_getD, List.getElem?_eq_getElem h1, Option.getD_some] at this
  simp [this]
theorem repk {k n : Nat} (h : n ≤ 1000) : repF (.lst [.int (k : Nat)]) (.int (n : Nat)) = some ((List.replicate n k).map fun k : Nat => D.int (k : Nat)) := by
  unfold repF
  have c1 : (decide (((n : Nat) : Int) < 9223372036854775808) && decide (-9223372036854775808 ≤ ((n : Nat) : Int)) && decide ([D.int (k : Nat)].length * ((n : Nat) : Int).toNat ≤ LIM)) = true := by
    simp only [Bool.and_eq_true, decide_eq_true_eq, List.length_cons, List.length_nil]
    unfold LIM
    omega
  have fl : ∀ n : Nat, (List.replicate n [D.int (k : Nat)]).flatten = (List.replicate n k).map fun k : Nat => D.int (k : Nat) := fun n => by
    induction n with
    | zero => rfl
    | succ n ih => rw [List.replicate_succ, List.flatten_cons, ih, List.replicate_succ]; rfl
  show (if _ then some (List.replicate ((n : Nat) : Int).toNat [D.int (k : Nat)]).flatten else none) = _
  rw [if_pos c1, Int.toNat_natCast, fl]
theorem cut_any (xs : List D) (i : Nat) : cutD xs none (some (i : Int)) = xs.take i := by
  unfold cutD
  rw [HT.sIx_none, HT.sIx_nat, List.drop_zero, Nat.sub_zero]
  by_cases h : i ≤ xs.length
  · rw [Nat.min_eq_left h]
  · rw [Nat.min_eq_right (by omega), List.take_of_length_le (Nat.le_refl _), List.take_of_length_le (by omega)]
theorem cnt_N (l : List Nat) (k : Nat) : cntLD (NL l) (.int (k : Nat)) = some (.int ((l.count k : Nat) : Int)) := by
  unfold cntLD
  have ok : (okDs (l.map fun k : Nat => D.int (k : Nat)) 8 && okD (.int (k : Nat)) 8) = true := by rw [okDs_map (fun k => rfl)]; rfl
  show (if _ then some (D.int (((l.map fun k : Nat => D.int (k : Nat)).countP fun z => eqd z (.int (k : Nat)) : Nat) : Int)) else none) = _
  rw [if_pos ok, List.countP_map]
  congr 3
  unfold List.count
  congr 1
  funext j
  simp only [Function.comp, eqd_int]
  rw [Bool.eq_iff_iff]
  simp
  omega
theorem seqS_assoc (s t u : SM) : seqS (seqS s t) u = seqS s (seqS t u) := by
  funext ρ ω
  unfold seqS
  cases s ρ ω <;> rfl
theorem nx_seq2 {a b u : SM} {ρ ρ' : Fr} {ω ω' : W3} {R : SO → Prop} (h : seqS a b ρ ω = .nx ρ' ω') (k : R (u ρ' ω')) : R (seqS a (seqS b u) ρ ω) := by
  rw [← seqS_assoc]
  exact nx_seq h k
theorem nx_seq3 {a b c u : SM} {ρ ρ' : Fr} {ω ω' : W3} {R : SO → Prop} (h : seqS a (seqS b c) ρ ω = .nx ρ' ω') (k : R (u ρ' ω')) : R (seqS a (seqS b (seqS c u)) ρ ω) := by
  have e : seqS a (seqS b (seqS c u)) = seqS (seqS a (seqS b c)) u := by rw [seqS_assoc, seqS_assoc]
  rw [e]
  exact nx_seq h k
theorem frz_no {a : Slot} (h : isOwn (some a) = false) : frzS a = a := by
  cases a with
  | own d => cases h
  | _ => rfl
theorem okTI (i j : Int) : okD (.tup [.int i, .int j]) 8 = true := rfl
theorem nT {f : EM Bool} {ρ ρ' : Fr} {ω ω' : W3} {b : Bool} (h : f ρ ω = .ok b ρ' ω') : notT f ρ ω = .ok (!b) ρ' ω' := by simp only [notT, h, Out.andThen]
end L2.Fl

namespace L2.Fl
open PySem PySem.Spec PyProof.Rows
/-! ### range(a, b, -1) -/
def downL (lo : Int) (n : Nat) : List D := (List.range n).map fun (i : Nat) => D.int (lo + (i : Int) * (-1))
theorem downL_len (lo : Int) (n : Nat) : (downL lo n).length = n := by simp [downL]
def dnD : List D → Option (List D)
  | [.int i, .int j, .int (-1)] => if rgOk i && rgOk j then some (downL i (i - j).toNat) else none
  | _ => none
theorem dnD_some {d r : List D} (h : dnD d = some r) : ∃ i j, d = [.int i, .int j, .int (-1)] ∧ rgOk i = true ∧ rgOk j = true ∧ r = downL i (i - j).toNat := by
  unfold dnD at h
  split at h
  · split at h
    · rename_i hc
      simp only [Bool.and_eq_true] at hc
      cases h
      exact ⟨_, _, rfl, hc.1, hc.2, rfl⟩
    · cases h
  · cases h
def dnM (f : EM (List D)) : EM (List D) := fun ρ ω => (f ρ ω).andThen fun d => optM (dnD d)
section
variable {B : Bc} {K : PySem.W.Frag} {X : Cx} {tg iter : Expr}
theorem wk_down {g : Gd} {R : (Addr → Prop) → Hp → Prop} {lo : Int} {n : Nat} : Wk g R (Itc lo (-1) n) (downL lo n) :=
  ⟨fun _ => True, fun i H x H' => H' = H ∧ x = .int (lo + (i : Int) * (-1)), ⟨fun i H hi _ => by rw [downL_len] at hi; exact hi, fun H _ => by rw [downL_len]; exact Nat.le_refl n, fun i H x H' _ _ y => y⟩, fun _ _ _ => trivial, fun i H x H' Z ω hi k r y => by
    obtain ⟨rfl, rfl⟩ := y
    rw [downL_len] at hi
    exact ⟨Z, .int (lo + (i : Int) * (-1)), .refl, by simp [downL, hi], .int _⟩⟩
theorem w_down {f : EM (List D)} (h : PI X tg iter (iRng3 (RdA B f))) : PI X tg iter (RdI B (dnM f)) := PI.imp h fun σ H R ⟨Z, ρ, ω, j, q⟩ => by
  refine ⟨Z, ρ, ω, j, ?_⟩
  unfold dnM at q
  cases ea : f ρ ω with
  | bad => simp only [ea, Out.andThen] at q
  | exc c ω' => simp only [ea, Out.andThen] at q; exact q
  | ok d ρ1 ω1 =>
    simp only [ea, Out.andThen, optM] at q
    intro Z1 vs H1 e1 z1 j1 r1
    cases ez : dnD d with
    | none => simp only [ez] at q
    | some r =>
      simp only [ez] at q
      obtain ⟨i, jj, rfl, o1, o2, rfl⟩ := dnD_some ez
      obtain ⟨b1, b2⟩ := rgOk_ok o1
      obtain ⟨b3, b4⟩ := rgOk_ok o2
      cases r1 with
      | cons ra rr =>
      cases rr with
      | cons rb rr =>
      cases rr with
      | cons rc rr =>
      cases rr
      have ha := BR.int (g := B.g) (.inl ra)
      have hb := BR.int (g := B.g) (.inl rb)
      have hc := BR.int (g := B.g) (.inl rc)
      subst ha hb hc
      exact ⟨i, jj, -1, _, rfl, RgC.neg b1 b2 b3 b4, q Z1 H1 _ e1 z1 j1 wk_down⟩
end
end L2.Fl

namespace L2.Fl
open PySem PySem.Spec PyProof.Rows
/-! ### xs.index(i), whole numbers -/
def indexLD (a b : D) : Option D := match a, b with
  | .lst xs, .int y => (match ints? xs with
    | some is => (match is.findIdx? (fun i => i == y) with
      | some j => some (.int (j : Nat))
      | none => none)
    | none => none)
  | _, _ => none
theorem indexLD_some {a b d : D} (h : indexLD a b = some d) : ∃ (is : List Int) (y : Int) (j : Nat), a = .lst (is.map D.int) ∧ b = .int y ∧ d = .int (j : Nat) ∧ is.findIdx? (fun i => i == y) = some j := by
  unfold indexLD at h
  split at h
  · rename_i xs y
    split at h
    · rename_i is e
      split at h
      · rename_i j ej
        cases h
        exact ⟨is, y, j, by rw [ints_of e], rfl, rfl, ej⟩
      · cases h
    · cases h
  · cases h
section
variable {X : Cx} {B : Bc} {o a : Expr} {apos cpos : Pos} {fa fb : EM D} {k : Nat}
theorem eIndexL (ho : PE X o (RdB B fa)) (ha : PE X a (RdB B fb)) (hbase : attributeBase o "index" X.env (eval o X.env) = eval o X.env := by rfl)
    (hfew : ((backTo cpos (starEach [a] X.env)).all (fun x => !x.1) && (backToKw cpos (keywordEach [] X.env)).all (fun x => x.1.isSome)
      && decide (([a] : List Expr).length + ([] : List Keyword).length + (if ([] : List Keyword).isEmpty then 0 else 1) < 30)) = true := by rfl)
    (hline : (apos.endLine == cpos.line) = true := by rfl) (hs : starEach [a] X.env = (false, eval a X.env) :: starEach [] X.env := by rfl) (hplain : (backTo cpos (starEach [] X.env)).any (·.1) = false := by rfl) :
    PE X (.Call (.Attribute o "index" apos) [a] [] cpos) (RdE B (cntM isLst indexLD fa fb)) :=
  PE.imp (pe_bm PySem.F.plainAttrs_list PySem.F.slot_list_index PySem.F.type_list_index mt_index ho (pa_cons ha pa_nil hs) hbase hfew hline hs hplain)
    (i_cnt (ty := tyV X.K "list") (fun Z H d x hk r => by
      cases d with
      | lst xs =>
        obtain ⟨p, vs, rfl, hp, _⟩ := r.lst
        exact .inl ⟨rfl, _, SqL.of hp⟩
      | _ => cases hk) (fun Z H d d2 u x y Q ra rb h => by
      obtain ⟨is, yy, j, rfl, rfl, rfl, ej⟩ := indexLD_some h
      refine ⟨_, rfl, fun hq => ?_⟩
      obtain ⟨p, vs, rfl, hp, rs⟩ := ra.lst
      have hy := BR.int (g := B.g) rb
      subst hy
      rcases rs.ints with e | e
      · subst e
        obtain ⟨hj, h1, h2⟩ := List.findIdx?_eq_some_iff_getElem.mp ej
        refine ⟨p, is.map V.int, .int yy, j, .int is[j], rfl, rfl, SqL.of hp, rfl, ?_, by simp [hj], h1, fun m z hm hz => ?_, hq⟩
        · rw [List.all_map]
          exact List.all_eq_true.mpr fun i _ => rfl
        · have hml : m < is.length := by omega
          rw [List.getElem?_map, List.getElem?_eq_getElem hml] at hz
          cases hz
          have := h2 m hm
          show (is[m] == yy) = false
          simpa using this
      · exact e.elim))
end
end L2.Fl

namespace L2.Fl
open PySem PySem.Spec PyProof.Rows
/-! ### xs.extend(ys) -/
def extS (i : Nat) (f : EM D) : SM := fun ρ ω => match ρ[i]? with
  | some (.own (.lst _)) => (f ρ ω).stm fun d ρ ω => match ρ[i]?, d with
    | some (.own (.lst ds)), .lst es => if ds.length + es.length ≤ LIM then .nx (ρ.set i (.own (.lst (ds ++ es)))) ω else .bad
    | _, _ => .bad
  | _ => .bad
section
variable {X : Cx} {B : Bc} {st : Stmt} {o a : Expr} {apos cpos pos : Pos}
theorem s_ext {i : Nat} {f : EM D} (h : PS X st (tDrop (tBM X.K "list" rExtend (tVar i) (tCons (RdE B f) tNil)))) : PS X st (RdS B (extS i f)) := PS.imp h fun En σ H ⟨Z, ρ, ω, j, q⟩ => by
  unfold extS at q
  split at q
  · rename_i ds0 ei
    obtain ⟨p, vs0, h1, h2, h3, h4⟩ := j.lstAt ei
    refine ⟨.ref p, h1, .inl ⟨rfl, _, SqL.of h2⟩, Z, ρ, ω, j, ?_⟩
    cases ea : f ρ ω with
    | bad => simp only [ea, Out.stm] at q; exact q
    | exc c ω' => simp only [ea, Out.stm] at q; exact q
    | ok d ρ1 ω1 =>
      simp only [ea, Out.stm] at q
      intro Z1 v H1 e1 z1 j1 r1
      split at q
      · rename_i ds es ei1
        by_cases hl : ds.length + es.length ≤ LIM
        · rw [if_pos hl] at q
          obtain ⟨p', vs, g1, g2, g3, g4⟩ := j1.lstAt ei1
          rw [h1] at g1
          cases g1
          obtain ⟨b, us, rfl, hb, rs⟩ := BR.lst (g := B.g) (.inl r1)
          refine ⟨p, b, vs, us, rfl, rfl, g2, hb, by rw [← g3.length, ← rs.length, ← lim_eq]; exact hl, q Z1 σ _ ((Kp.of j.good z1 e1).trans (kp_upd g4)) (j1.mut ei1 h1 (.lst upd_same ?_) fix_lst)⟩
          exact (g3.append rs).upd g4
        · rw [if_neg hl] at q; exact q.elim
      · exact q.elim
  · exact q.elim
theorem sExt {i : Nat} {f : EM D} (ho : PE X o (tVar i)) (ha : PE X a (RdE B f)) (hbase : attributeBase o "extend" X.env (eval o X.env) = eval o X.env := by rfl)
    (hfew : ((backTo cpos (starEach [a] X.env)).all (fun x => !x.1) && (backToKw cpos (keywordEach [] X.env)).all (fun x => x.1.isSome)
      && decide (([a] : List Expr).length + ([] : List Keyword).length + (if ([] : List Keyword).isEmpty then 0 else 1) < 30)) = true := by rfl)
    (hline : (apos.endLine == cpos.line) = true := by rfl) (hs : starEach [a] X.env = (false, eval a X.env) :: starEach [] X.env := by rfl) (hplain : (backTo cpos (starEach [] X.env)).any (·.1) = false := by rfl)
    (hsw : swapsWith (.Call (.Attribute o "extend" apos) [a] [] cpos) none pos.line X.env = pure false := by rfl) :
    PS X (.Expr (.Call (.Attribute o "extend" apos) [a] [] cpos) pos) (RdS B (extS i f)) :=
  s_ext (ps_expr (pe_bm PySem.F.plainAttrs_list PySem.F.slot_list_extend PySem.F.type_list_extend mt_extend ho (pa_cons ha pa_nil hs) hbase hfew hline hs hplain) hsw)
end
end L2.Fl

namespace L2.Fl
open PySem PySem.Spec PyProof.Rows
/-! ### range(0, n, c) -/
theorem small_up {n c : Int} (n0 : 0 ≤ n) (n1 : n ≤ 1000) (c1 : 1 ≤ c) (c2 : c ≤ 1000) : Builtin.Range.small 0 n c = true := by
  have hc : 0 ≤ (n + c - 1) / c := Int.ediv_nonneg (by omega) (by omega)
  have hb : (n + c - 1) / c ≤ n := by
    have h : n + c - 1 < (n + 1) * c := by
      have : n * 1 ≤ n * c := Int.mul_le_mul_of_nonneg_left c1 n0
      rw [Int.add_mul, Int.one_mul]
      omega
    have := Int.ediv_lt_of_lt_mul (by omega : 0 < c) h
    omega
  have hm : (n + c - 1) / c * c ≤ n + c - 1 := Int.ediv_mul_le _ (by omega)
  have hn : 0 ≤ (n + c - 1) / c * c := Int.mul_nonneg hc (by omega)
  unfold Builtin.Range.small
  rw [rangeSize_pos c1 n0]
  simp only [Builtin.Range.rangeFitsLong, Bool.and_eq_true, Bool.or_eq_true, decide_eq_true_eq, beq_iff_eq]
  refine ⟨by omega, .inr ?_⟩
  rw [if_pos (by omega)]
  simp only [Bool.and_eq_true, decide_eq_true_eq]
  omega
theorem rgC_up {n c : Int} (n0 : 0 ≤ n) (n1 : n ≤ 1000) (c1 : 1 ≤ c) (c2 : c ≤ 1000) : RgC 0 n c ((n + c - 1) / c).toNat := by
  refine ⟨by omega, by omega, small_up n0 n1 c1 c2, ?_⟩
  rw [rangeSize_pos c1 n0]
  have : 0 ≤ (n + c - 1) / c := Int.ediv_nonneg (by omega) (by omega)
  omega
def stepL (c : Int) (n : Nat) : List D := (List.range n).map fun (i : Nat) => D.int ((i : Int) * c)
theorem stepL_len (c : Int) (n : Nat) : (stepL c n).length = n := by simp [stepL]
def stD : List D → Option (List D)
  | [.int 0, .int n, .int c] => if decide (0 ≤ n) && decide (n ≤ 1000) && decide (1 ≤ c) && decide (c ≤ 1000) then some (stepL c ((n + c - 1) / c).toNat) else none
  | _ => none
theorem stD_some {d r : List D} (h : stD d = some r) : ∃ n c, d = [.int 0, .int n, .int c] ∧ 0 ≤ n ∧ n ≤ 1000 ∧ 1 ≤ c ∧ c ≤ 1000 ∧ r = stepL c ((n + c - 1) / c).toNat := by
  unfold stD at h
  split at h
  · split at h
    · rename_i hc
      simp only [Bool.and_eq_true, decide_eq_true_eq] at hc
      cases h
      exact ⟨_, _, rfl, hc.1.1.1, hc.1.1.2, hc.1.2, hc.2, rfl⟩
    · cases h
  · cases h
def stM (f : EM (List D)) : EM (List D) := fun ρ ω => (f ρ ω).andThen fun d => optM (stD d)
section
variable {B : Bc} {K : PySem.W.Frag} {X : Cx} {tg iter : Expr}
theorem wk_step {g : Gd} {R : (Addr → Prop) → Hp → Prop} {c : Int} {n : Nat} : Wk g R (Itc 0 c n) (stepL c n) :=
  ⟨fun _ => True, fun i H x H' => H' = H ∧ x = .int (0 + (i : Int) * c), ⟨fun i H hi _ => by rw [stepL_len] at hi; exact hi, fun H _ => by rw [stepL_len]; exact Nat.le_refl n, fun i H x H' _ _ y => y⟩, fun _ _ _ => trivial, fun i H x H' Z ω hi k r y => by
    obtain ⟨rfl, rfl⟩ := y
    rw [stepL_len] at hi
    rw [Int.zero_add]
    exact ⟨Z, .int ((i : Int) * c), .refl, by simp [stepL, hi], .int _⟩⟩
theorem w_step {f : EM (List D)} (h : PI X tg iter (iRng3 (RdA B f))) : PI X tg iter (RdI B (stM f)) := PI.imp h fun σ H R ⟨Z, ρ, ω, j, q⟩ => by
  refine ⟨Z, ρ, ω, j, ?_⟩
  unfold stM at q
  cases ea : f ρ ω with
  | bad => simp only [ea, Out.andThen] at q
  | exc c ω' => simp only [ea, Out.andThen] at q; exact q
  | ok d ρ1 ω1 =>
    simp only [ea, Out.andThen, optM] at q
    intro Z1 vs H1 e1 z1 j1 r1
    cases ez : stD d with
    | none => simp only [ez] at q
    | some r =>
      simp only [ez] at q
      obtain ⟨n, c, rfl, n0, n1, c1, c2, rfl⟩ := stD_some ez
      cases r1 with
      | cons ra rr =>
      cases rr with
      | cons rb rr =>
      cases rr with
      | cons rc rr =>
      cases rr
      have ha := BR.int (g := B.g) (.inl ra)
      have hb := BR.int (g := B.g) (.inl rb)
      have hc := BR.int (g := B.g) (.inl rc)
      subst ha hb hc
      exact ⟨0, n, c, _, rfl, rgC_up n0 n1 c1 c2, q Z1 H1 _ e1 z1 j1 wk_step⟩
end
end L2.Fl

namespace L2.Fl
open PySem PySem.Spec PyProof.Rows PySem.W PySem.Calls

/-! ### an own exception whose __init__ says super().__init__(text) and keeps its one field -/
/-- what the row tells of the class at C, its __init__ at fI -/
structure BpOk (P : Program) (K : PySem.W.Frag) (mg : Str → Option Value) (C fI : Addr) : Prop where
  own : L2.OexC K C
  g : mg "BadPaper" = some (.ref C)
  sup : mg "super" = none
  iC : PySem.W.findIn K (.ref C) "__init__" = some (some (.ref fI))
  tI : PySem.W.typeIn K (.ref fI) = some (.type "function")
  no : PySem.W.findIn K (.ref C) "part" = some none
  si : PySem.W.ks_superIn K C C "__init__" = some (some (.builtin "ValueError.__init__"))
  sub : PySem.W.subIn K (.ref C) (.type "ValueError") = some true
  mro : PySem.W.mroIn K C (.ref C) = some true
  opq : PySem.W.nsIn K cStatics "thirdparty.any" = some none
  top : (P.main.scope.names.lookup ("super" : Str)).isSome = false
  fn : ∃ (oc : Value) (od : Option Addr) (osl : Array (Option Value)) (qual : Str) (body : List Stmt) (scope : Scope) (ps : Arguments) (ar : Arg) (kV doc pm ct : Value) (an : Option Addr) (cda cc : Addr) (ccl cl : Value) (cdd cld : Option Addr) (vs : Array Value) (ccs csl : Array (Option Value)) (file : Str) (tf : Tok)
      (m : Str) (j : Nat) (p0 p1 p2 p3 p4 p5 p6 p7 p8 p9 : Pos) (pl : Env → Sem Bool) (mo : List (Str × Const)),
    (∀ env : Env, eval (.Call (.Attribute (.Call (.Name "super" p0) [] [] p1) "__init__" p2) [.Constant (.str m) j p3] [] p4) env = (do
      let ov ← attributeBase (.Call (.Name "super" p0) [] [] p1) "__init__" env (eval (.Call (.Name "super" p0) [] [] p1) env)
      standAt p2.atName
      let (f, first) ← holding [ov] (getMethod ov "__init__" (pl env))
      callWith p4 f first (backTo p4 (starEach [.Constant (.str m) j p3] env)) [])) ∧
    K.lookup fI = some ⟨oc, od, .func (PySem.W.ksFn "__init__" qual ps body scope .none kV doc pm an (.ref cda) ct cc), osl⟩ ∧ PySem.W.codeIn K (.ref cda) qual = true ∧
    body = [.Expr (.Call (.Attribute (.Call (.Name "super" p0) [] [] p1) "__init__" p2) [.Constant (.str m) j p3] [] p4) p5, .Assign [.Attribute (.Name "self" p6) "part" p7] (.Name "part" p8) p9] ∧
    (ps.posonlyargs ++ ps.args).head? = some ar ∧ ar.arg = "self" ∧ 
    scope = { kind := .function, isGenerator := false, isCoroutine := false, more := mo, names := [(PySem.Str.ofString "self", NameKind.local), (PySem.Str.ofString "part", NameKind.local), (PySem.Str.ofString "__class__", NameKind.free), (PySem.Str.ofString "super", NameKind.globalImplicit)] } ∧
    K.lookup cda = some ⟨ccl, cdd, .fields vs, ccs⟩ ∧ vs[2]? = some (.str file tf) ∧ ((P.main.file : Str) == file) = true ∧ K.lookup cc = some ⟨cl, cld, .cell (some (.ref C)), csl⟩ ∧
    (∀ (s : Shared) (u v : Value), BindsTo s (PySem.W.ksFn "__init__" qual ps body scope .none kV doc pm an (.ref cda) ct cc) ⟨[u, v], []⟩ [("self", u), ("part", v)])

section
variable {P : Program} {w : World} {K : PySem.W.Frag} {mg mb : Str → Option Value} {A : Around} {R : Result → Shared → Prop} {h : Heap} {g : Array GenState} {d : Drawn} {t : Nat} {os : OsState} {C fI e tx : Addr} {v : Value}
theorem bp_init (B : BpOk P K mg C fI) (hroom : A.depth < recursionLimit) (X : K.In h) (lim : h.NoLimit) (G : h.Ns mainGlobals mg) (Bn : h.Ns builtinsNs mb) (hmb : mb "super" = bootBuiltins "super")
    (hx : h.get? e = some (PySem.HandSPX.excO C tx)) (hKe : ∀ o, K.lookup e ≠ some o)
    (hq : ∀ h' t' dx t1, (∀ b o, b ≠ e → h.get? b = some o → h'.get? b = some o) → h.objs.size ≤ dx → dx ≠ e → h'.get? e = some { cls := .ref C, dict := some dx, data := .fields #[.ref t1, .none, .none, .none, .bool false, .none] } →
      h'.Ns1 dx (fun y => if y = ("part" : Str) then some v else none) → R (.ok (.ret .none)) ⟨h', g, d, t', os⟩) :
    codeAny (model P w) A (.call (.ref fI) ⟨[.ref e, v], []⟩) R ⟨h, g, d, t, os⟩ := by
  obtain ⟨oc, od, osl, qual, body, scope, ps, ar, kV, doc, pm, ct, an, cda, cc, ccl, cl, cdd, cld, vs, ccs, csl, file, tf, m, j, p0, p1, p2, p3, p4, p5, p6, p7, p8, p9, pl, mo, hev, lf, hcd, rfl, hp, har, hsc, hcode, hvs, hfile, hcell, hbind⟩ := B.fn
  obtain ⟨nm, q, N, bs, bm, sn, sub, ab, col, dd, k0, k1, k2, k3, k5, hC, hbm⟩ := B.own.cls
  have hcl : PySem.W.clsIn K C = some { name := nm, bases := bs, mro := .ref C :: bm, ns := N, qualname := q, hasDict := true, slotNames := sn, subclasses := sub, abstract := ab, collection := col, hasDel := false } := by unfold PySem.W.clsIn; rw [hC] <;> rfl
  have hk : scope.kind = .function := by rw [hsc]
  have hco : scope.isCoroutine = false := by rw [hsc]
  have hgen : scope.isGenerator = false := by rw [hsc]
  have hnm : scope.names = [(PySem.Str.ofString "self", NameKind.local), (PySem.Str.ofString "part", NameKind.local), (PySem.Str.ofString "__class__", NameKind.free), (PySem.Str.ofString "super", NameKind.globalImplicit)] := by rw [hsc]
  have hs1 : scope.names.lookup ("self" : Str) = some NameKind.local := by rw [hnm]; rfl
  have hs2 : scope.names.lookup ("part" : Str) = some NameKind.local := by rw [hnm]; rfl
  have hs3 : scope.names.lookup ("__class__" : Str) = some NameKind.free := by rw [hnm]; rfl
  have hs4 : scope.names.lookup ("super" : Str) = some NameKind.globalImplicit := by rw [hnm]; rfl
  have hC1 := X _ _ hC
  have hEC : e ≠ C := fun z => by rw [z, hC1] at hx; cases hx
  refine ks_codeAny_call_defAt hroom (X _ _ lf) rfl lim (codeRec_of X hcd) rfl (hbind _ _ _) (fun y hy => ?_) (fun y hy => ?_) (fun h₀ hns hkp => ?_) hco hgen hk
  · have hy : y ∈ scope.names := hy
    rw [hnm] at hy
    simp only [List.mem_cons, List.not_mem_nil, or_false] at hy
    rcases hy with rfl | rfl | rfl | rfl <;> simp
  · show scope.names.lookup y.1 = _
    simp only [List.mem_cons, List.not_mem_nil, or_false] at hy
    rcases hy with rfl | rfl
    · exact hs1
    · exact hs2
  have hkC : h₀.get? C = some _ := hkp _ _ hC1
  have X0 : K.In h₀ := fun a o z => hkp _ _ (X a o z)
  have hxe : h₀.get? e = some (PySem.HandSPX.excO C tx) := hkp _ _ hx
  have hsz : e < h.objs.size := Heap.lt_size hx
  refine ks_wpAt_execs_cons (ks_wpAt_Expr_any (ks_wpAt_MethodCall ?_ (hev _)) (by subst hsc; rfl) (by subst hsc; rfl))
  refine ks_wpAt_super_base hs4 hs3 (by decide) rfl (X0 _ _ lf) rfl hp rfl (X0 _ _ hcode) rfl hvs hfile B.top ?_
  refine ks_loadName_global hk hs4 (loadGlobal_builtin (G.keeps hkp) B.sup (Bn.keeps hkp) (hmb.trans (by decide +kernel)) ⟨rfl, ?_⟩)
  refine wpAny_loadName_free hk hs3 rfl ⟨_, X0 _ _ hcell, rfl⟩ ?_
  rw [har]
  refine wpAny_loadName_local hk hs1 hns rfl ?_
  refine ks_wpAny_isType_cls hkC rfl ⟨rfl, ?_⟩
  refine ks_wpAny_call_super hkC rfl hxe rfl (fun c z => by cases z) (looks_mroIn X0 B.mro) (fun h1 he1 hk1 => ?_)
  have X1 : K.In h1 := fun a o z => hk1 _ _ (X0 a o z)
  have hx1 : h1.get? e = some (PySem.HandSPX.excO C tx) := hk1 _ _ hxe
  have sup : (PySem.W.clsIn K C).bind (fun cd => PySem.W.alongIn K "__init__" ((cd.mro.dropWhile (· != .ref C)).drop 1)) = some (some (.builtin "ValueError.__init__")) := B.si
  rw [hcl] at sup
  refine PySem.W.kxs_getMethod PySem.W.kxs_ValueError he1 (looks_opaque X1 B.opq) (l₀ := .ref C :: bm) (fun A Q E s k q => wpAny_bind ((looks_clsIn X1 hcl) A _ E s k (wpAny_pure q))) rfl X1 sup
    ((InstAt.type (od := none) ⟨hx1, rfl, rfl, trivial⟩).andThen (looks_subIn X1 B.sub)) hEC (by decide) ?_
  -- the call of what was bound
  generalize hh2 : h1.push (PySem.W.kxs_mw "ValueError.__init__" e) = h2
  have k2 : ∀ b o, h1.get? b = some o → h2.get? b = some o := fun b o z => by rw [← hh2]; exact Heap.get?_push_of_some _ z
  have hu2 : h2.get? h1.objs.size = some (PySem.W.kxs_mw "ValueError.__init__" e) := by rw [← hh2]; exact Heap.get?_push_at rfl rfl
  show wpAny _ _ (callWith p4 (.ref h1.objs.size) [] ((false, eval (.Constant (.str m) j p3) _) :: backTo p4 (starEach [] _)) []) _ _ _
  refine PySem.W.kxs_callWith (i := "ValueError.__init__") (x := e) rfl (evalArgs_plain (spliced_cons (Constant_str (spliced_nil ⟨hu2, ?_⟩))))
  have hx2 : h2.get? e = some (PySem.HandSPX.excO C tx) := k2 _ _ hx1
  have hC2 : h2.get? C = some _ := k2 _ _ (hk1 _ _ hkC)
  refine wpAny_call (codeAny_of_tree ?_)
  show wpAny _ (A.deeper _).in1 (callAny (.ref h1.objs.size) ⟨_, []⟩) _ _ _
  simp only [callAny]
  refine wpAny_bind (wpAny_load hu2 ?_)
  simp only [PySem.W.kxs_mw, show (Value.type "method-wrapper" == Value.type "method" || Value.type "method-wrapper" == Value.type "builtin_function_or_method" || Value.type "method-wrapper" == Value.type "method-wrapper") = true by decide, if_true]
  refine PySem.W.KFB.if_so (by decide) ?_
  refine wpAny_bind (PySem.W.check_bound_init PySem.F.excBase_ValueError.toExcCallFacts hC2 hx2 rfl ?_)
  refine wpAny_bind (wpAny_pure (wpAny_pure ?_))
  refine ⟨plainId_quiet PySem.F.excBase_ValueError.init.plain _, codeAny_builtin PySem.F.excBase_ValueError.initEntry ?_⟩
  refine PySem.W.exc_init_tree (cls := .ref C) (t0 := tx) (dv := none) (c2 := .none) (c3 := .none) (b4 := .bool false) hx2 (by simp [sizeLine_eq]) fun h3 k3 hx3 _ => ?_
  -- self.part = part
  have kk3 : ∀ b o, b ≠ e → h₀.get? b = some o → h3.get? b = some o := fun b o hb z => k3 b o hb (k2 _ _ (hk1 _ _ z))
  have X3 : K.In h3 := fun a o z => kk3 a o (fun y => hKe o (by rw [← y]; exact z)) (X0 _ _ z)
  have ns3 : h3.Ns h.objs.size _ := hns.at fun o z => kk3 _ _ (Nat.ne_of_gt hsz) z
  show PySem.wpAt _ _ _ (execs [.Assign [.Attribute (.Name "self" p6) "part" p7] (.Name "part" p8) p9] _) _ _ _
  refine PySem.wpAt_of_wpAny (wpAny_execs_cons (plainObj_wpAny_Assign_Attribute (wpAny_Name (wpAny_loadName_local hk hs2 ns3 rfl ?_) (by decide)) (by rfl)))
  refine wpAny_Name (wpAny_loadName_local hk hs1 ns3 rfl ?_) (by decide)
  refine PySem.W.set_plain X3 (ox := { cls := .ref C, dict := none, data := .fields #[.ref h2.objs.size, .none, .none, .none, .bool false, .none] }) (od := none) ⟨hx3, rfl, rfl, trivial⟩ B.own.sa ?_
  refine PySem.HandSPX.exc_osa X3 hx3 hcl (show PySem.HandSPX.refsVE (.ref C :: bm) = true from hbm) rfl B.no (fun h4 tk4 dx k4 dn dne hx4 hn4 => ?_)
  refine wpAny_execs_nil ?_
  have le3 : h.objs.size ≤ h3.objs.size := by
    obtain ⟨o, _, _, ho, _⟩ := ns3
    exact Nat.le_of_lt (Heap.lt_size ho)
  exact hq h4 tk4 dx _ (fun b o hb z => k4 b o hb (kk3 b o hb (hkp _ _ z))) (Nat.le_trans le3 dn) dne hx4 hn4
end
/-- BadPaper(e) -/
def tBp (C : Addr) (te : TE) : L2.St → Hp → XK → Prop := fun σ H Q => te σ H fun x H1 => ∃ y, [x] = [y] ∧ ∀ d, H1 d = none → Q (.ref C) (some d) (upd H1 d (.xd [("part", y)]))
theorem part_un {X : Cx} {pins : List (Addr × Obj)} {σ : L2.St} {H : Hp} {s : Shared} {fs : List Addr} {a C dx t1 : Addr} {y : V} {u : Value} {h' : Heap} (I : Inv X pins σ H s) (e : H a = some (exo a C none)) (ry : RelV y u)
    (k : ∀ b o, b ≠ a → s.heap.get? b = some o → h'.get? b = some o) (dn : s.heap.objs.size ≤ dx) (dne : dx ≠ a) (hx : h'.get? a = some { cls := .ref C, dict := some dx, data := .fields #[.ref t1, .none, .none, .none, .bool false, .none] }) (hn : h'.Ns1 dx (fun y => if y = ("part" : Str) then some u else none)) :
    Un fs [] H (upd (upd H dx (exd dx [(("part" : Str), y)])) a (exo a C (some dx))) s.heap h' ∧ HOk X.prog X.w (upd (upd H dx (exd dx [(("part" : Str), y)])) a (exo a C (some dx))) h' := by
  have hnd : H dx = none := I.hok.fresh dn
  have nd : ∀ {b : Addr} {o : Obj}, s.heap.get? b = some o → b ≠ dx := fun {b o} q => Nat.ne_of_lt (Nat.lt_of_lt_of_le (Heap.lt_size q) dn)
  have na : ∀ {b : Addr}, H b = none → b ≠ a := fun {b} n z => by
    rw [z, e] at n
    cases n
  refine ⟨{
    keep := fun b o q n _ _ => k b o (na n) q
    slot := fun b o q n _ _ => ⟨o.slots, k b o (na n) q⟩
    free := fun b o q n _ => by rw [upd_ne (na n), upd_ne (nd q)]; exact n
    there := fun b o q _ => by
      by_cases hb : b = a
      · exact ⟨_, by rw [hb]; exact hx⟩
      · exact ⟨o, k b o hb q⟩
    tups := fun b xs q => by rw [upd_ne (at_ne e q exo_tup), upd_ne (ne_of_none q hnd)]; exact q
    frzs := fun b o v q => by rw [upd_ne (at_ne e q exo_frz), upd_ne (ne_of_none q hnd)]; exact q
    tbls := fun b ps q => ⟨#[], by rw [upd_ne (at_ne e q exo_tbl), upd_ne (ne_of_none q hnd), q]; simp⟩ }, fun b o q => ?_⟩
  by_cases hb : b = a
  · subst hb
    rw [upd_same] at q
    cases q
    exact exo_ok hx
  · rw [upd_ne hb] at q
    by_cases hd : b = dx
    · subst hd
      rw [upd_same] at q
      cases q
      exact exd_ok hn (relO_put (fs := []) ry fun g => True.intro)
    · rw [upd_ne hd] at q
      exact (I.hok b o q).stay (fun c v hc z => k c v (by
          rcases hc with hc | hc
          · rw [hc]
            exact hb
          · exact at_ne e hc exo_own) z)
        (fun c hc => by rw [upd_ne (at_ne e hc exo_own), upd_ne (ne_of_none hc hnd)]; exact hc) (fun c xs hc => by rw [upd_ne (at_ne e hc exo_tup), upd_ne (ne_of_none hc hnd)]; exact hc)
theorem pmk_bp {X : Cx} {C fI : Addr} {e : Expr} {te : TE} {p pos : Pos} {k : Nat} (T : BpOk X.prog X.K X.mg C fI) (hr : Room (k + 1) X.A) (hg : Gl X "BadPaper") (ha : PE X e te)
    (he : starEach [e] X.env = (false, eval e X.env) :: starEach [] X.env := by rfl) (hpl : (backTo pos (starEach [] X.env)).any (·.1) = false := by rfl) :
    PMk X (.Call (.Name "BadPaper" p) [e] [] pos) (tBp C te) := by
  intro pins s σ H Q I h
  obtain ⟨nm, q, N, bs, bm, sn, sub, ab, col, dd, k0, k1, k2, k3, k5, hC, hbm⟩ := T.own.cls
  refine wpAny_Call_Name_kw (ld_glob I hg T.g ?_ (by decide))
  have ha' : PA X [e] (tCons te tNil) := pa_cons ha pa_nil he
  refine PySem.W.callWith_K (h₀ := X.base) I.ok.mod.kin T.own.kC (thn (ha'.run pos pins s σ H (fun vs H1 => ∃ y, vs = [y] ∧ ∀ d, H1 d = none → Q (.ref C) (some d) (upd H1 d (.xd [("part", y)]))) I ?_) fun us s1 ⟨vs, H1, I1, r1, y, ev, q1⟩ => ⟨I1.kIn, ?_⟩) he hpl
  · exact h
  subst ev
  cases r1 with
  | @cons _ u _ us' ry rn =>
    cases rn
    show wpAny _ _ (call (.ref C) [u]) _ _ _
    obtain ⟨hp, g, dr, tk, os⟩ := s1
    have hsz : hp.objs.size ≤ hp.objs.size + 1 := Nat.le_succ _
    have hn : H1 (hp.objs.size + 1) = none := I1.hok.fresh hsz
    have kk : ∀ b o, hp.get? b = some o → ((hp.push (PySem.W.kdv_tup [u])).push (PySem.HandSPX.excO C hp.objs.size)).get? b = some o := fun b o e => Heap.get?_push_of_some _ (Heap.get?_push_of_some _ e)
    have hget : ((hp.push (PySem.W.kdv_tup [u])).push (PySem.HandSPX.excO C hp.objs.size)).get? (hp.objs.size + 1) = some (PySem.HandSPX.excO C hp.objs.size) := by heap_get
    have I2 : Inv X pins σ (upd H1 (hp.objs.size + 1) (exo (hp.objs.size + 1) C none)) ⟨(hp.push (PySem.W.kdv_tup [u])).push (PySem.HandSPX.excO C hp.objs.size), g, dr, tk, os⟩ :=
      I1.laid (t' := tk) (a := hp.objs.size + 1) (o := exo (hp.objs.size + 1) C none) (h' := (hp.push (PySem.W.kdv_tup [u])).push (PySem.HandSPX.excO C hp.objs.size)) kk hsz (exo_ok hget)
    have hKe : ∀ o, X.K.lookup (hp.objs.size + 1) ≠ some o := fun o z => by
      have := Heap.lt_size (I1.kIn _ _ z)
      have this : hp.objs.size + 1 < hp.objs.size := this
      omega
    obtain ⟨mb, hb1, hb2⟩ := I2.mod.blt
    refine wpAny_call (PySem.HandSPX.call_own PySem.F.excBase_ValueError (fun Y => PySem.HandSPX.refsVE_contains Y bm hbm) (I1.kIn _ _ hC) (PySem.W.looks_findIn I1.kIn T.iC) (fun self => PySem.W.bind_fn I1.kIn self T.tI) (by simp [sizeLine_eq])
      (bp_init T (hr.make C [u] []).depth I2.kIn I2.nolimit (I2.mod.glob.keeps I2.bk) (hb1.keeps I2.bk) (hb2 _ (by decide)) hget hKe fun h' t' dx t1 k4 dn dne hx4 hn4 => ?_))
    unfold PySem.W.InitBack
    simp only
    have e0 : upd H1 (hp.objs.size + 1) (exo (hp.objs.size + 1) C none) (hp.objs.size + 1) = some (exo (hp.objs.size + 1) C none) := upd_same
    obtain ⟨un, hok⟩ := part_un (fs := frs X.stack) I2 e0 ry k4 dn dne hx4 hn4
    have hdx : upd H1 (hp.objs.size + 1) (exo (hp.objs.size + 1) C none) dx = none := I2.hok.fresh dn
    have hd1 : H1 dx = none := by rw [upd_ne dne] at hdx; exact hdx
    refine ⟨trivial, mk_end (raises_own T.own.exC T.own.tyC) I1 hsz kk un hok rfl I1.bare upd_same (by rw [upd_ne dne, upd_same]) hd1 ?_⟩
    have ee : upd (del (upd (upd (upd H1 (hp.objs.size + 1) (exo (hp.objs.size + 1) C none)) dx (exd dx [(("part" : Str), y)])) (hp.objs.size + 1) (exo (hp.objs.size + 1) C (some dx))) (hp.objs.size + 1)) dx (.xd [("part", y)]) = upd H1 dx (.xd [("part", y)]) := by
      funext b
      by_cases hb : b = dx
      · rw [hb, upd_same, upd_same]
      · rw [upd_ne hb, upd_ne hb]
        by_cases hb2 : b = hp.objs.size + 1
        · rw [hb2, del_same, hn]
        · rw [del_ne hb2, upd_ne hb2, upd_ne hb, upd_ne hb2]
    rw [ee]
    exact q1 dx hd1
/-- raise BadPaper(e) -/
def raVS (f : EM D) (c : Nat) : SM := fun ρ ω => match f ρ ω with
  | .ok _ _ ω' => .exc c ω'
  | .exc c' ω' => .exc c' ω'
  | .bad => .bad
theorem s_raiseBp {X : Cx} {B : Bc} {fI : Addr} {n : Nat} {e : Expr} {f : EM D} {p pos pos2 : Pos} {k : Nat} (hc : X.calm = true) (T : BpOk X.prog X.K X.mg (B.cls n) fI) (tk : Takes X (fun cls d _ H => B.E cls d H)) (hr : Room (k + 1) X.A) (ha : PE X e (RdE B f)) (hg : Gl X "BadPaper" := by rfl)
    (he : starEach [e] X.env = (false, eval e X.env) :: starEach [] X.env := by rfl) (hpl : (backTo pos (starEach [] X.env)).any (·.1) = false := by rfl) :
    PS X (.Raise (some (.Call (.Name "BadPaper" p) [e] [] pos)) none pos2) (RdS B (raVS f n)) := PS.imp (ps_raise hc tk (pmk_bp T hr hg ha he hpl)) fun D σ H ⟨Z, ρ, ω, j, q⟩ => by
  refine ⟨Z, ρ, ω, j, ?_⟩
  unfold raVS at q
  cases ea : f ρ ω with
  | bad => rw [ea] at q; exact q
  | exc c ω' => rw [ea] at q; exact q
  | ok d ρ1 ω1 =>
    rw [ea] at q
    intro Z1 x H1 e1 z1 j1 r1
    refine ⟨x, rfl, fun dx hdx => ?_⟩
    have gr : Grow B.g Z1 H1 Z1 (upd H1 dx (.xd [("part", x)])) := grow_new0 hdx
    have j2 := j1.grow gr
    exact B.hE n ω1 (some dx) _ Z1 q j2.ext j2.good fun dd h => by cases h; exact ⟨_, upd_same⟩
end L2.Fl

namespace L2.Fl
open PySem PySem.Spec PyProof.Rows

/-! ### sorted(d), max(d): d a dict whose keys are whole numbers -/
def intsOf : List D → Option (List Int)
  | [] => some []
  | .int i :: r => (intsOf r).map (i :: ·)
  | _ => none
def dkeysI (a : D) : Option (List Int) := match a with
  | .dct ks => intsOf (ks.map (·.1))
  | .dctF ks => intsOf (ks.map (·.1))
  | _ => none
theorem intsOf_eq : ∀ {ds : List D} {is : List Int}, intsOf ds = some is → ds = is.map D.int
  | [], is, h => by simp only [intsOf, Option.some.injEq] at h; subst h; rfl
  | .int i :: r, is, h => by
    simp only [intsOf, Option.map_eq_some_iff] at h
    obtain ⟨js, h1, h2⟩ := h
    subst h2
    rw [intsOf_eq h1]; rfl
section
variable {tk : Nat → Option V} {Z : Addr → Prop} {H : Hp}
theorem kD_int {k : Key} {i : Int} (h : kD k = .int i) : k = .inl i := by
  cases k with
  | inl j => simp only [kD] at h; cases h; rfl
  | inr s => simp only [kD] at h; cases h
theorem RK.keysI : ∀ {ks : List (D × D)} {kvs : List (Key × V)} {is : List Int}, RK tk Z H ks kvs → ks.map (·.1) = is.map D.int → kvs.map (·.1) = is.map Sum.inl
  | _, _, is, .nil, h => by
    cases is with
    | nil => rfl
    | cons => cases h
  | _, _, is, .cons r t, h => by
    cases is with
    | nil => cases h
    | cons i is =>
      simp only [List.map_cons, List.cons.injEq] at h ⊢
      exact ⟨kD_int h.1, t.keysI h.2⟩
end
theorem rd_frz {H : Hp} {p : Addr} {o : Obj} {u : HO} (h : H p = some (.frz o u)) : Rd H p u := .inr ⟨o, h⟩
theorem dkeysI_br {g : Gd} {Z : Addr → Prop} {H : Hp} {a : D} {x : V} {is : List Int} (r : BR g Z H a x) (h : dkeysI a = some is) : ∃ p kvs, x = .ref p ∧ Rd H p (.dK kvs) ∧ kvs.map (·.1) = is.map Sum.inl := by
  cases a with
  | dct ks =>
    simp only [dkeysI] at h
    have e := intsOf_eq h
    rcases r with r | ⟨p, rfl, n, r⟩
    · cases r with
      | obj z r => cases r with
        | dK hp rk => exact ⟨_, _, rfl, .inl hp, rk.keysI e⟩
    · cases r with
      | dK hp rk => exact ⟨_, _, rfl, .inl hp, rk.keysI e⟩
  | dctF ks =>
    simp only [dkeysI] at h
    have e := intsOf_eq h
    obtain ⟨p, kvs, o, rfl, z, hp, rk⟩ := BR.dctF r
    exact ⟨p, kvs, rfl, rd_frz hp, rk.keysI e⟩
  | _ => cases h
def sortKD (rev : Bool) (a : D) : Option (List D) := match dkeysI a with
  | some is => if is.length ≤ LIM then some (isortD (leS rev) (is.map D.int)) else none
  | none => none
theorem eachInts {ys : List V} {xs : List D} : ∀ {its : List Value} {is : List Int} (n : Nat), IntsAre its is → (∀ i : Nat, ∀ k, is[i]? = some k → ys[i + n]? = some (.int k) ∧ xs[i + n]? = some (.int k)) → PySem.W.EachIs (fun v d => ∃ (i : Nat) (x : V), ys[i]? = some x ∧ xs[i]? = some d ∧ RelV x v) its (is.map D.int)
  | _, _, _, .nil, _ => .nil
  | _, _, n, .cons i t r, h => .cons ⟨n, .int _, by have := (h 0 _ rfl).1; simpa using this, by have := (h 0 _ rfl).2; simpa using this, ⟨_, rfl⟩⟩ (eachInts (n + 1) r fun j k e => by
    have := h (j + 1) k (by simpa using e)
    rw [show j + (n + 1) = j + 1 + n by omega]; exact this)
theorem eachIntsR {h : Heap} {q : Addr} : ∀ {its : List Value} {is : List Int}, IntsAre its is → PySem.W.EachIs (fun v b => ∃ as, Reads h v (pD b) as ∧ q ∉ as) its (is.map D.int)
  | _, _, .nil => .nil
  | _, _, .cons i t r => .cons ⟨[], .int _ _, by simp⟩ (eachIntsR r)
section
variable {X : Cx} {pins : List (Addr × Obj)} {σ : L2.St} {H : Hp} {s : Shared}
def rSortK (rev : Bool) : List V → Hp → VK → Prop := fun vs H Q => ∃ (a : Addr) (kvs : List (Key × V)) (is : List Int), vs = [.ref a] ∧ Rd H a (.dK kvs) ∧ kvs.map (·.1) = is.map Sum.inl ∧ is.length ≤ LIM ∧
  ∀ (p : Addr) (zs : List V), H p = none → zs.length = is.length → (∀ (i : Nat) (v : V) (d : D), zs[i]? = some v → (isortD (leS rev) (is.map D.int))[i]? = some d → ∃ k : Int, v = .int k ∧ d = .int k) → Q (.ref p) (upd H p (.lst zs))
theorem sortedK_run {rev : Bool} {Q : VK} {vs : List V} {us : List Value} {kw : List (Str × Value)} (hcalm : X.calm = true) (hu : X.A.units + 65 < cLine) (hkw : kw = [(Str.ofString "reverse", .bool rev)] ∨ (kw = [] ∧ rev = false)) (I : Inv X pins σ H s) (r : Vals vs us) (h : rSortK rev vs H Q) : wpAny (model X.prog X.w) X.A (call (.builtin "sorted") us kw) (EP X pins σ Q) X.xe s := by
  obtain ⟨a, kvs, ks, rfl, hd, hks, h64, q⟩ := h
  rw [Vals.ref1 r]
  obtain ⟨z, lo, vs, rel, dd⟩ := dk_rd I.hok hd
  obtain ⟨ep, hat⟩ := dd.dictAt
  have hkeys : vs.map (·.1) = ks.map Sum.inl := rel.keys.symm.trans hks
  have hl : vs.length = ks.length := by
    have e := congrArg List.length hkeys
    rw [List.length_map, List.length_map] at e
    exact e
  have h16 : vs.length ≤ sizeLine := by rw [hl, ← lim_eq]; exact h64
  refine PyProof.Rows.call_function_entry_kw PyProof.Rows.kind_sorted PyProof.Rows.plain_sorted PyProof.Rows.entry_sorted (by
    rcases hkw with e | ⟨e, _⟩ <;> subst e
    · exact PyProof.Rows.args_sorted_rev _ _
    · exact PyProof.Rows.args_sorted1 _) ?_
  unfold Builtin.«sorted»
  refine wpAny_bind (m := checkCount "sorted" 1 1 _) (wpAny_pure ?_)
  refine wpAny_bind (PySem.W.kdu_collect (A := X.A.in1) (PySem.W.kdl_dict (knd := mixKind X.prog X.w) (kvs := vs) (ep := ep) lo) (I.ok.hd hcalm) hat h16 fun h' tk acc hk hacc => ?_)
  have hal : acc.toList.length = ks.length := by rw [Array.length_toList, hacc.1, hl]
  have hS : IntsAre acc.toList ks := ints_each hal fun j v e => by
    obtain ⟨k, x, e1, e2⟩ := hacc.2 j v (by rw [← Array.getElem?_toList]; exact e)
    have e3 : (vs.map (·.1))[j]? = some k := by rw [List.getElem?_map, e1]; rfl
    rw [hkeys, List.getElem?_map] at e3
    cases e4 : ks[j]? with
    | none => rw [e4] at e3; cases e3
    | some y =>
      rw [e4] at e3
      have e5 : Sum.inl y = k := Option.some.inj e3
      subst e5
      rcases keyIs_shape (show keyIs (Sum.inl y) v = true from e2) with ⟨i, t, ek, ev⟩ | ⟨z, t, ek, ev⟩
      · cases ek
        exact ⟨y, t, rfl, ev⟩
      · cases ek
  have I1 : Inv X pins σ H { s with heap := h', toks := tk } := I.kept hk
  simp only
  refine wpAny_bind (wpAny_newList ?_ (by rw [hal, ← lim_eq]; exact h64))
  generalize hits : acc.toList = its at hS hal ⊢
  have hob : (h'.push { cls := .type "list", data := .seq its.toArray }).get? h'.objs.size = some (seqObj "list" its.toArray 0) := Heap.get?_push_size _ rfl
  have kp : ∀ b o, s.heap.get? b = some o → (h'.push { cls := .type "list", data := .seq its.toArray }).get? b = some o := fun b o e => Heap.get?_push_of_some _ (hk b o e)
  have fr : H h'.objs.size = none := I1.hok.fresh (Nat.le_refl _)
  have e1 : PySem.W.EachIs (fun v d => ∃ (i : Nat) (x : V), (ks.map V.int)[i]? = some x ∧ (ks.map D.int)[i]? = some d ∧ RelV x v) its (ks.map D.int) := eachInts 0 hS fun i k e => ⟨by simp [e], by simp [e]⟩
  have e2 : PySem.W.EachIs (fun v b => ∃ as, Reads (h'.push { cls := .type "list", data := .seq its.toArray }) v (pD b) as ∧ h'.objs.size ∉ as) its (ks.map D.int) := eachIntsR hS
  have fin : ∀ (out : List Value), out.length = (ks.map D.int).length → PySem.W.EachIs (fun v d => ∃ (i : Nat) (x : V), (ks.map V.int)[i]? = some x ∧ (ks.map D.int)[i]? = some d ∧ RelV x v) out ((ks.map D.int).mergeSort (PySem.W.dataLe rev pD)) →
      EP X pins σ Q (.ref h'.objs.size) { s with heap := sortedHeap (h'.push { cls := .type "list", data := .seq its.toArray }) h'.objs.size its (List.toArray out), toks := tk } := fun out lo e => by
    rw [← isort_data] at e
    obtain ⟨zs, rz, lz, hz'⟩ := eachOf e
    have lz2 : zs.length = ks.length := by rw [rz.length, lo, List.length_map]
    obtain ⟨n', hat⟩ := PyProof.Rows.sortedHeap_at (out := out.toArray) hob
    refine ⟨.ref h'.objs.size, upd H h'.objs.size (.lst zs), I1.laid (t' := tk) (fun b u e => ?_) (Nat.le_refl _) ⟨by rw [lz2, ← lim_eq]; exact h64, out, n', rz, hat⟩, rfl, q _ zs fr lz2 fun i v d e3 e4 => ?_⟩
    · have hlt : b < h'.objs.size := Heap.lt_size e
      rw [PyProof.Rows.sortedHeap_old (Nat.ne_of_lt hlt) (by rw [Heap.size_push]; exact Nat.lt_succ_of_lt hlt)]
      exact Heap.get?_push_of_some _ e
    · obtain ⟨j, e5, e6⟩ := hz' i v d e3 e4
      rw [List.getElem?_map, Option.map_eq_some_iff] at e5 e6
      obtain ⟨k1, a1, a2⟩ := e5
      obtain ⟨k2, b1, b2⟩ := e6
      rw [a1] at b1; cases b1
      exact ⟨k1, a2.symm, b2.symm⟩
  have alike : PySem.W.AllAlike ((ks.map D.int).map pD) := fun d hd d' hd' => by
    obtain ⟨y, hy, rfl⟩ := List.mem_map.mp hd
    obtain ⟨y', hy', rfl⟩ := List.mem_map.mp hd'
    obtain ⟨i, _, rfl⟩ := List.mem_map.mp hy
    obtain ⟨i', _, rfl⟩ := List.mem_map.mp hy'
    rfl
  have sble : PySem.W.Sortable ((ks.map D.int).map pD) := .inr fun d hd => by
    obtain ⟨y, hy, rfl⟩ := List.mem_map.mp hd
    obtain ⟨i, _, rfl⟩ := List.mem_map.mp hy
    exact ⟨by simp [pD], fun _ => by simp [pD]⟩
  have dep : ∀ b, b ∈ ks.map D.int → X.A.in1.units + 1 + (pD b).depth < cLine := fun b hb => by
    obtain ⟨k, _, rfl⟩ := List.mem_map.mp hb
    show X.A.units + 1 + 1 + _ < _
    have : (pD (.int k)).depth ≤ 1 := by simp [pD, PyData.depth]
    omega
  rcases hkw with e | ⟨e, er⟩
  · subst e
    exact wpAny_bind (wpAny_holding (PySem.W.list_sort_rev_data hob e1 e2 alike sble (by rw [List.length_map, ← lim_eq]; exact h64) dep fun out lo e => wpAny_pure ⟨_, rfl, fin out lo e⟩))
  · subst e er
    exact wpAny_bind (wpAny_holding (PySem.W.list_sort_data hob e1 e2 alike sble (by rw [List.length_map, ← lim_eq]; exact h64) dep fun out lo e => wpAny_pure ⟨_, rfl, fin out lo e⟩))
theorem call_sortK (hc : X.calm = true) (hu : X.A.units + 65 < cLine) : CallR X (.builtin "sorted") (rSortK false) := fun pins s σ H vs us Q I r h => sortedK_run hc hu (.inr ⟨rfl, rfl⟩) I r h
def rSortKRev : List V → List V → Hp → VK → Prop := fun vs zs H Q => match zs with
  | [.bl true] => rSortK true vs H Q
  | _ => False
theorem call_sortKRev (hc : X.calm = true) (hu : X.A.units + 65 < cLine) : CallRK X (.builtin "sorted") [Str.ofString "reverse"] rSortKRev := fun pins s σ H vs zs us ws Q I r rz h => by
  unfold rSortKRev at h
  split at h
  · cases rz with
    | cons a b =>
      cases b
      obtain rfl := a
      exact sortedK_run hc hu (.inl rfl) I r h
  · exact h.elim
/-- max(d) -/
def rMaxK : List V → Hp → VK → Prop := fun vs H Q => ∃ (a : Addr) (kvs : List (Key × V)) (is : List Int), vs = [V.ref a] ∧ Rd H a (.dK kvs) ∧ kvs.map (·.1) = is.map Sum.inl ∧ is ≠ [] ∧ ∀ m, m ∈ is → (∀ j ∈ is, j ≤ m) → Q (.int m) H
theorem cr_maxK (hc : X.calm = true) : CallR X (.builtin "max") rMaxK := by
  intro pins s σ H vs us Q I r h
  obtain ⟨a, kvs, is, rfl, ha, hv, hne, q⟩ := h
  rw [Vals.ref1 r]
  obtain ⟨_, hsys, vs, rel, dof⟩ := dk_rd I.hok ha
  obtain ⟨ep, dat⟩ := dof.dictAt
  obtain ⟨ob, es, ho, hex, hdat, hko, hpr, hnd⟩ := id dat
  have hlt : a < s.heap.objs.size := Heap.lt_size ho
  have hkeys : vs.map (·.1) = is.map Sum.inl := (KV.keys rel).symm.trans hv
  have hlv : vs.length = is.length := by
    have e1 := congrArg List.length hkeys
    rw [List.length_map, List.length_map] at e1
    exact e1
  have hlen : 0 < vs.length := by
    rw [hlv]
    exact List.length_pos_iff.mpr hne
  have hval : ∀ (i : Nat) (v : Value), (∃ k x, vs[i]? = some (k, x) ∧ (mixKind X.prog X.w).is k v = true) → ∃ t, v = Value.int (is.getD i 0) t := fun i v ⟨k, x, hk, hkey⟩ => by
    have e1 : (vs.map (·.1))[i]? = some k := by rw [List.getElem?_map, hk] <;> rfl
    rw [hkeys, List.getElem?_map] at e1
    obtain ⟨j, hj, e2⟩ := Option.map_eq_some_iff.mp e1
    subst e2
    have hi : Value.isInt j v = true := hkey
    obtain ⟨t, e3⟩ := Value.isInt_shape (k := j) (v := v) hi
    refine ⟨t, ?_⟩
    rw [e3, List.getD_eq_getElem?_getD, hj] <;> rfl
  refine call_max_walk (wpAny_pyIter_dict (knd := mixKind X.prog X.w) hsys dat ?_)
  refine ⟨_, _, _, _, _, _, _, rfl, Walks.dictKeys (knd := mixKind X.prog X.w) (A := X.A.in1) (I.ok.hd hc) s.heap.objs.size a (Nat.ne_of_lt hlt) vs ep,
    ⟨⟨_, Heap.get?_push_size _ rfl, rfl, rfl⟩, dat.keep fun b u e => Heap.get?_push_of_some _ e⟩, fun b hb => ?_, hlen, CmpOf.ints_gt (fun i => is.getD i 0) hval, fun v h' tk hP hk => ?_⟩
  · show b < (s.heap.push _).objs.size
    rw [Heap.size_push]
    rcases List.mem_cons.mp hb with e | hb
    · rw [e]
      exact Nat.lt_succ_self _
    · rw [List.mem_singleton.mp hb]
      exact Nat.lt_succ_of_lt hlt
  · obtain ⟨t, rfl⟩ := hval _ v hP
    obtain ⟨b1, b2⟩ := argBest_gt (fun i => is.getD i 0) (vs.length - 1)
    refine ⟨.int _, H, I.kept (t' := tk) fun b u e => hk b u (fun hmem => ?_) (Heap.get?_push_of_some _ e), ⟨t, rfl⟩, q _ ?_ fun j hj => ?_⟩
    · have e1 : b = s.heap.objs.size := List.mem_singleton.mp hmem
      have e2 := Heap.lt_size e
      rw [e1] at e2
      exact absurd e2 (Nat.lt_irrefl _)
    · have hb : argBest (fun i j => decide (is.getD i 0 > is.getD j 0)) (vs.length - 1) < is.length := by omega
      rw [List.getD_eq_getElem?_getD, List.getElem?_eq_getElem hb]
      exact List.getElem_mem hb
    · obtain ⟨i, hi, e⟩ := List.mem_iff_getElem.mp hj
      have e2 : is.getD i 0 = j := by rw [List.getD_eq_getElem?_getD, List.getElem?_eq_getElem hi, ← e] <;> rfl
      rw [← e2]
      exact b2 i (by omega)
end
def maxI : List Int → Int
  | [] => 0
  | x :: xs => xs.foldl (fun a y => if y > a then y else a) x
theorem maxI_fold : ∀ (xs : List Int) (x : Int), (xs.foldl (fun a y => if y > a then y else a) x ∈ x :: xs) ∧ ∀ j ∈ x :: xs, j ≤ xs.foldl (fun a y => if y > a then y else a) x
  | [], x => by simp
  | y :: ys, x => by
    simp only [List.foldl_cons]
    by_cases h : y > x
    · simp only [h, if_true]
      obtain ⟨a, b⟩ := maxI_fold ys y
      refine ⟨List.mem_cons_of_mem _ a, fun j hj => ?_⟩
      rcases List.mem_cons.mp hj with rfl | hj
      · have := b y List.mem_cons_self; omega
      · exact b j hj
    · simp only [h, if_false]
      obtain ⟨a, b⟩ := maxI_fold ys x
      refine ⟨?_, fun j hj => ?_⟩
      · rcases List.mem_cons.mp a with a | a
        · rw [a]; exact List.mem_cons_self
        · exact List.mem_cons_of_mem _ (List.mem_cons_of_mem _ a)
      · rcases List.mem_cons.mp hj with rfl | hj
        · exact b _ List.mem_cons_self
        · rcases List.mem_cons.mp hj with rfl | hj
          · have := b x List.mem_cons_self; omega
          · exact b j (List.mem_cons_of_mem _ hj)
def maxKD (a : D) : Option D := match dkeysI a with
  | some (x :: xs) => some (.int (maxI (x :: xs)))
  | _ => none
theorem simF_sortK {g : Gd} {rev : Bool} : SimF1 g (r1c (rSortK rev)) (sortKD rev) := fun Z H ω x a ds Q G ra h hq => by
  unfold sortKD at h
  cases ek : dkeysI a with
  | none => simp only [ek] at h; cases h
  | some is =>
    simp only [ek] at h
    by_cases hl : is.length ≤ LIM
    · rw [if_pos hl] at h
      cases h
      obtain ⟨p, kvs, rfl, hr, hk⟩ := dkeysI_br ra ek
      refine ⟨p, kvs, is, rfl, hr, hk, hl, fun q zs hq0 lz hz => hq q zs hq0 (RDs.of_get (by rw [isort_len, lz, List.length_map]) fun i v d e1 e2 => ?_)⟩
      obtain ⟨k, rfl, rfl⟩ := hz i v d e1 e2
      exact .int k
    · rw [if_neg hl] at h; cases h
theorem sim_maxK {g : Gd} : Sim1 g (r1c rMaxK) maxKD := fun Z H ω x a d Q G ra h hq => by
  unfold maxKD at h
  split at h
  · rename_i x0 xs ek
    cases h
    obtain ⟨p, kvs, rfl, hr, hk⟩ := dkeysI_br ra ek
    refine ⟨p, kvs, x0 :: xs, rfl, hr, hk, by simp, fun m hm hj => ?_⟩
    obtain ⟨a1, a2⟩ := maxI_fold xs x0
    have : m = maxI (x0 :: xs) := Int.le_antisymm (a2 m hm) (hj _ a1)
    rw [this]
    exact hq Z _ H .refl (.int _)
  · cases h
section
variable {X : Cx} {B : Bc} {e : Expr} {p pos : Pos} {k : Nat} {fa : EM D}
theorem fSortedK (hc : X.calm = true) (hr : Room k X.A) (hb : Bn X.mg) (ha : PE X e (RdB B fa)) (hg : Gl X "sorted" := by rfl) (he : starEach [e] X.env = (false, eval e X.env) :: starEach [] X.env := by rfl) (hpl : (backTo pos (starEach [] X.env)).any (·.1) = false := by rfl) : PE X (.Call (.Name "sorted" p) [e] [] pos) (RdF B (opF1 (sortKD false) fa)) :=
  f_op1 simF_sortK (pe_callB (call_sortK hc (room65 hr)) hg hb.sorted (by decide +kernel) (pa_cons ha pa_nil he) (he := he) (hpl := hpl))
theorem fSortedKRev {kp tp : Pos} {jj : Nat} (hc : X.calm = true) (hr : Room k X.A) (hb : Bn X.mg) (ha : PE X e (RdB B fa)) (hg : Gl X "sorted" := by rfl) (he1 : starEach [e] X.env = (false, eval e X.env) :: starEach [] X.env := by rfl)
    (he : backTo pos (starEach [e] X.env) = (false, eval e X.env) :: backTo pos (starEach [] X.env) := by rfl) (hpl : (backTo pos (starEach [e] X.env)).any (·.1) = false := by rfl)
    (hall : (backToKw pos (keywordEach [⟨some "reverse", .Constant (.bool true) jj tp, kp⟩] X.env)).all (·.1.isSome) = true := by rfl) (hnone : (backToKw pos (keywordEach [⟨some "reverse", .Constant (.bool true) jj tp, kp⟩] X.env)).any (·.1.isNone) = false := by rfl)
    (hks : (backToKw pos (keywordEach [⟨some "reverse", .Constant (.bool true) jj tp, kp⟩] X.env)).filterMap (·.1) = [Str.ofString "reverse"] := by rfl) :
    PE X (.Call (.Name "sorted" p) [e] [⟨some "reverse", .Constant (.bool true) jj tp, kp⟩] pos) (RdF B (opF1 (sortKD true) fa)) :=
  f_op1 simF_sortK (PE.imp (pe_callBK (call_sortKRev hc (room65 hr)) hg hb.sorted (by decide +kernel) (pa_cons ha pa_nil he1) (pk_cons pe_bl pk_nil) (he := he) (hpl := hpl) (hall := hall) (hnone := hnone) (hks := hks)) fun σ H Q h => h)
theorem eMaxK (hc : X.calm = true) (hb : Bn X.mg) (ha : PE X e (RdB B fa)) (hg : Gl X "max" := by rfl) (he : starEach [e] X.env = (false, eval e X.env) :: starEach [] X.env := by rfl) (hpl : (backTo pos (starEach [] X.env)).any (·.1) = false := by rfl) : PE X (.Call (.Name "max" p) [e] [] pos) (RdE B (op1 maxKD fa)) :=
  m_op1 sim_maxK (fun ta ha => pe_callB (cr_maxK hc) hg hb.max (by decide +kernel) (pa_cons ha pa_nil he) (he := he) (hpl := hpl)) ha
end
/-- x = {k: v}, of literal whole numbers, one's own -/
def litS (i : Nat) (d : D) : SM := fun ρ ω => .nx (ρ.set i (.own d)) ω
theorem upd_upd {H : Hp} {p : Addr} {a b : HO} : upd (upd H p a) p b = upd H p b := by
  funext q
  by_cases h : q = p
  · rw [h, upd_same, upd_same]
  · rw [upd_ne h, upd_ne h, upd_ne h]
theorem s_lit1 {X : Cx} {B : Bc} {st : Stmt} {i : Nat} {k v : Int} (h : PS X st (tAsg (tDisp [(tC (.int k), tC (.int v))]) (gName i))) : PS X st (RdS B (litS i (.dct [(.int k, .int v)]))) := PS.imp h fun D σ H ⟨Z, ρ, ω, j, q⟩ => by
  intro p hp
  refine ⟨upd_same, [(.inl k, .int v)], rfl, by simp, ?_⟩
  rw [upd_upd]
  obtain ⟨n1, n2, n3, n5, n4⟩ := fresh_of j hp
  have gr : Grow B.g Z H Z (upd H p (.dK (mergeK [] [(.inl k, .int v)]))) := grow_new0 hp
  exact q Z _ _ (.of j.good gr.sub gr.ext) ((j.grow gr).setOwn (.dK upd_same (.cons (k := .inl k) (.int v) .nil)) n1 n2 n3 n5 n4)
section
variable {X : Cx} {B : Bc} {a b : Expr} {pos : Pos} {fa fb : EM D}
theorem tIsNot (ha : PE X a (RdB B fa)) (hb : PE X b (RdB B fb)) : PT X (.Compare a [.IsNot] [b] pos) (RdT B (asB (op2 notN2 fa fb))) := m_tcmp sim_notN op_notN ha hb (nomark _)
theorem eIsNot (ha : PE X a (RdB B fa)) (hb : PE X b (RdB B fb)) : PE X (.Compare a [.IsNot] [b] pos) (RdE B (op2 notN2 fa fb)) := m_cmp sim_notN op_notN ha hb (nomark _)
end
/-! ### the row's facts of BadPaper -/
def clsBody : Stmt → List Stmt
  | .ClassDef _ _ _ b _ _ _ _ _ _ _ => b
  | _ => []
theorem OexC.mk' {K : PySem.W.Frag} {C N : Addr} {nm q : Str} {bs bm : List Value} {sn : List Str} {sub : List Value} {ab : Bool} {col : Option Bool} {dd : Option Addr} {k0 k1 k2 k3 k5 : Option Value}
    (c : K.lookup C = some (excClassObj nm q C N bs bm true sn sub ab col dd k0 k1 k2 k3 k5 "ValueError.__new__")) (r : PySem.HandSPX.refsVE bm = true) (sa : PySem.W.findIn K (.ref C) "__setattr__" = some (some (.builtin "object.__setattr__")))
    (x : PySem.W.subIn K (.ref C) (.type "BaseException") = some true) (t : PySem.W.typeIn K (.ref C) = some (.type "type")) (k : PySem.W.keepIn K (.ref C) = true) : L2.OexC K C := ⟨⟨_, _, _, _, _, _, _, _, _, _, _, _, _, _, _, c, r⟩, sa, x, t, k⟩
end L2.Fl

namespace L2.Fl
open PySem PySem.Spec PyProof.Rows

/-! ### list comprehensions of two clauses -/
/-- the list at Dn -/
def AL (tk : Nat → Option V) (Dn : Addr) : AccR (List D) := fun Z H xs => ∃ vs, H Dn = some (.lst vs) ∧ RDs tk Z H xs vs
theorem AL.grow {g : Gd} {Dn : Addr} {Z Z' : Addr → Prop} {H H' : Hp} {xs : List D} (gr : Grow g Z H Z' H') (a : AL g.tk Dn Z H xs) : AL g.tk Dn Z' H' xs := by
  obtain ⟨vs, h, r⟩ := a
  exact ⟨vs, gr.keep _ _ h, r.mono gr.sub fun p o _ h => gr.keep p o h⟩
def step1L (t : TM) (tt : EM Bool) (te : EM D) : D → List D → EM (List D) := fun d acc ρ ω => match t d ρ with
  | none => .bad
  | some ρ1 => (tt ρ1 ω).thenB fun b ρ2 ω2 => match b with
    | false => .ok acc ρ2 ω2
    | true => (te ρ2 ω2).thenB fun x ρ3 ω3 => if acc.length < LIM then .ok (acc ++ [x]) ρ3 ω3 else .bad
def step2L (vs1 : List Nat) (t : TM) (tt : EM Bool) (it1 : EM (List D)) (t1 : TM) (tt1 : EM Bool) (te : EM D) : D → List D → EM (List D) := fun d acc ρ ω => match t d ρ with
  | none => .bad
  | some ρ1 => (tt ρ1 ω).thenB fun b ρ2 ω2 => match b with
    | false => .ok acc ρ2 ω2
    | true => (it1 ρ2 ω2).thenB fun ds1 ρ3 ω3 => loopA vs1 (step1L t1 tt1 te) ds1 acc (wipeF vs1 ρ3) ω3
def lc2M (vs vs1 : List Nat) (it : EM (List D)) (t : TM) (tt : EM Bool) (it1 : EM (List D)) (t1 : TM) (tt1 : EM Bool) (te : EM D) : EM (List D) := fun ρ ω => (it ρ ω).andThen fun ds ρ1 ω1 =>
  if noOwn vs ρ1 then (loopA vs (step2L vs1 t tt it1 t1 tt1 te) ds [] (wipeF vs ρ1) ω1).thenB fun xs ρ2 ω2 => .ok xs (restF vs ρ1 ρ2) ω2 else .bad
section
variable {B : Bc} {R : Addr → Prop} {Dn : Addr} {vs slots : List Nat} {σw : L2.St} {t : TM} {tt : EM Bool} {te : EM D}
theorem step1L_ok (hR : R Dn) (h0 : B.H0 Dn = none) (np : B.g.pd ≠ some Dn) (hsl : ∀ i ∈ slots, i ∈ vs) (hw0 : wipe σw vs = σw) (d : D) (x : V) (Z : Addr → Prop) (H : Hp) (ρ : Fr) (ω : W3) (a : List D) (Nx : Hp → Prop)
    (j : J (B.blk R) Z ρ σw H ω) (ra : AL B.g.tk Dn Z H a) (rd : RD B.g.tk Z H d x) (hq : SPost (B.blk R) Dn (AL B.g.tk Dn) vs σw Z H (step1L t tt te d a ρ ω) Nx) :
    ExG B t slots x σw H fun σ2 H2 => wipe σ2 vs = wipe σw vs ∧ ExT B tt σ2 H2 fun b H3 => if b = true then ExE B te σ2 H3 fun y H4 => ∃ acc, H4 Dn = some (.lst acc) ∧ acc.length < sizeLine ∧ Nx (upd H4 Dn (.lst (acc ++ [y]))) else Nx H3 := by
  unfold step1L at hq
  refine ⟨R, Z, ρ, ω, d, j, rd, ?_⟩
  cases et : t d ρ with
  | none => simp only [et] at hq; exact hq
  | some ρ4 =>
    simp only [et] at hq
    intro σ4 h4 l4 j4
    have hw4 : wipe σ4 vs = wipe σw vs := by
      rw [hw0]
      exact (wipe_eq (fun k hk => by rw [hw0]; exact h4 k fun z => hk (hsl k z)) (by rw [hw0]; exact l4)).trans hw0
    refine ⟨hw4, R, Z, ρ4, ω, j4, ?_⟩
    cases eb : tt ρ4 ω with
    | bad => simp only [eb, Out.thenB] at hq; exact hq
    | exc c ω' => simp only [eb, Out.thenB] at hq; exact hq.elim
    | ok b ρ5 ω5 =>
      simp only [eb, Out.thenB] at hq
      intro Z5 H5 x5 z5 j5
      have k5 : Kp Z H Z5 H5 := .of j4.good z5 x5
      obtain ⟨av, ha, rv⟩ := ra
      have h5 := x5.keep _ _ ha np fix_lst
      cases b with
      | false =>
        simp only [Bool.false_eq_true, if_false]
        refine hq Z5 H5 ?_ ⟨av, h5, rv.kp k5⟩ k5 x5.toD
        have := j5.wipe vs
        rw [hw4, hw0] at this
        exact this
      | true =>
        simp only [if_true]
        simp only at hq
        refine ⟨R, Z5, ρ5, ω5, j5, ?_⟩
        cases ee : te ρ5 ω5 with
        | bad => simp only [ee] at hq; exact hq
        | exc c ω' => simp only [ee] at hq; exact hq.elim
        | ok v ρ6 ω6 =>
          simp only [ee] at hq
          intro Z6 y6 H6 x6 z6 j6 r6
          by_cases hl : a.length < LIM
          · simp only [hl, if_true] at hq
            have k6 : Kp Z5 H5 Z6 H6 := .of j5.good z6 x6
            have h6 := x6.keep _ _ h5 np fix_lst
            have nz : ¬ Z6 Dn := (j6.res Dn (.inr hR)).1
            have ku : Kp Z6 H6 Z6 (upd H6 Dn (.lst (av ++ [y6]))) := kp_upd nz
            refine ⟨av, h6, by rw [← rv.length, ← lim_eq]; exact hl, hq Z6 _ ?_ ⟨_, upd_same, (((rv.kp k5).kp k6).append (.cons r6 .nil)).kp ku⟩ ((k5.trans k6).trans ku) ((x5.trans x6).toD.trans .upd)⟩
            have := (j6.updR (B := B.blk R) (o := .lst (av ++ [y6])) (.inr hR) h0 np h6 fix_lst).wipe vs
            rw [hw4, hw0] at this
            exact this
          · simp only [hl, if_false] at hq
            exact hq.elim
theorem i_lc2 {it it1 : EM (List D)} {vs vs1 sl sl1 : List Nat} {t t1 : TM} {tt tt1 : EM Bool} {te : EM D} (hsl : ∀ i ∈ sl, i ∈ vs) (hsl1 : ∀ i ∈ sl1, i ∈ vs1) (hv : ∀ i ∈ vs1, i ∈ vs) : ∀ σ H Q, RdF B (lc2M vs vs1 it t tt it1 t1 tt1 te) σ H Q →
    tLc2 (RdIB B it) (ExG B t sl) (ExT B tt) (ExIf B it1) (ExG B t1 sl1) (ExT B tt1) (ExE B te) vs vs1 σ H Q := fun σ H Q ⟨Z, ρ, ω, j, h⟩ => by
  refine ⟨Z, ρ, ω, j, ?_⟩
  unfold lc2M at h
  cases ea : it ρ ω with
  | bad => simp only [ea, Out.andThen] at h
  | exc c ω' => simp only [ea, Out.andThen] at h; exact h
  | ok ds ρ1 ω1 =>
    simp only [ea, Out.andThen] at h
    intro Z1 H1 It e1 z1 j1 w Dn hD
    by_cases hno : noOwn vs ρ1 = true
    · simp only [hno, if_true] at h
      obtain ⟨n1, n2, n3, n5, n4⟩ := fresh_of j1 hD
      have gr : Grow B.g Z1 H1 Z1 (upd H1 Dn (.lst [])) := grow_new0 hD
      have ja : J (B.blk (· = Dn)) Z1 (wipeF vs ρ1) (L2.wipe σ vs) (upd H1 Dn (.lst [])) ω1 := by
        refine ((j1.grow gr).toBlk (R := (· = Dn)) fun p hp => ?_).wipe vs
        subst hp
        exact ⟨n1, (by rw [upd_same]; intro z; cases z), n4⟩
      have kk : Kp Z1 H1 Z1 (upd H1 Dn (.lst [])) := .of j1.good gr.sub gr.ext
      have ww : L2.wipe (L2.wipe σ vs) vs = L2.wipe σ vs := wipe_in fun _ h => h
      refine loop_gen (B := B.blk (· = Dn)) (Dn := Dn) (AR := AL B.g.tk Dn) (vs := vs) (step := step2L vs1 t tt it1 t1 tt1 te) (w.weak fun Z H r => ⟨kk.trans r.1, ExtD.after gr.ext r.2 hD⟩) (fun _ _ _ _ _ g a => a.grow (g := B.g) g) _ ?_ ja ⟨[], upd_same, .nil⟩ ?_
      · intro d x Z2 H2 ρ2 ω2 a Nx j2 ra rd hq
        unfold step2L at hq
        refine ⟨(· = Dn), Z2, ρ2, ω2, d, j2, rd, ?_⟩
        cases et : t d ρ2 with
        | none => simp only [et] at hq; exact hq
        | some ρ4 =>
          simp only [et] at hq
          intro σ4 h4 l4 j4
          have hw4 : L2.wipe σ4 vs = L2.wipe σ vs := wipe_eq (fun k hk => h4 k fun z => hk (hsl k z)) l4
          refine ⟨hw4, (· = Dn), Z2, ρ4, ω2, j4, ?_⟩
          cases eb : tt ρ4 ω2 with
          | bad => simp only [eb, Out.thenB] at hq; exact hq
          | exc c ω' => simp only [eb, Out.thenB] at hq; exact hq.elim
          | ok b ρ3 ω3 =>
          simp only [eb, Out.thenB] at hq
          intro Z3 H3 x3 z3 j3
          have k3 : Kp Z2 H2 Z3 H3 := .of j4.good z3 x3
          have x3 : Ext B.g H2 H3 := x3
          have ra3 : AL B.g.tk Dn Z3 H3 a := by
            obtain ⟨kvs, hk, rk⟩ := ra
            exact ⟨kvs, x3.keep _ _ hk n2 fix_lst, rk.kp k3⟩
          cases b with
          | false =>
            simp only [Bool.false_eq_true, if_false]
            refine hq Z3 H3 ?_ ra3 k3 x3.toD
            have := j3.wipe vs
            rw [hw4] at this
            exact this
          | true =>
          simp only [if_true]
          simp only at hq
          refine ⟨(· = Dn), Z3, ρ3, ω3, j3, ?_⟩
          cases ei : it1 ρ3 ω3 with
          | bad => simp only [ei] at hq; exact hq
          | exc c ω' => simp only [ei] at hq; exact hq.elim
          | ok ds1 ρ5 ω5 =>
            simp only [ei] at hq
            intro Z5 H5 It1 x5 z5 j5 w5
            have k5 : Kp Z3 H3 Z5 H5 := .of j3.good z5 x5
            have x5 : Ext B.g H3 H5 := x5
            have ra5 : AL B.g.tk Dn Z5 H5 a := by
              obtain ⟨kvs, hk, rk⟩ := ra3
              exact ⟨kvs, x5.keep _ _ hk n2 fix_lst, rk.kp k5⟩
            have ww1 : L2.wipe (L2.wipe σ4 vs1) vs1 = L2.wipe σ4 vs1 := wipe_in fun _ h => h
            refine loop_gen (B := B.blk (· = Dn)) (Dn := Dn) (AR := AL B.g.tk Dn) (vs := vs1) (step := step1L t1 tt1 te) (w5.weak fun Z H r => r.1) (fun _ _ _ _ _ g a => a.grow (g := B.g) g) _ ?_ (j5.wipe vs1) ra5 ?_
            · intro d x Z H ρ ω a Nx j ra rd hq
              have := step1L_ok (R := (· = Dn)) rfl n3 n2 hsl1 ww1 d x Z H ρ ω a Nx j ra rd hq
              rw [ww1] at this
              exact this
            · cases el : loopA vs1 (step1L t1 tt1 te) ds1 a (wipeF vs1 ρ5) ω5 with
              | bad => simp only [el] at hq; exact hq
              | exc c ω' => simp only [el] at hq; exact hq
              | ok ks ρ6 ω6 =>
                simp only [el] at hq
                intro Z6 H6 j6 ra6 k6 x6
                refine hq Z6 H6 ?_ ra6 ((k3.trans k5).trans k6) ((x3.trans x5).toD.trans x6)
                have := j6.wipe vs
                rw [wipe_in hv, hw4] at this
                exact this
      · cases ec : loopA vs (step2L vs1 t tt it1 t1 tt1 te) ds [] (wipeF vs ρ1) ω1 with
        | bad => simp only [ec, Out.thenB] at h
        | exc c ω' => simp only [ec, Out.thenB] at h
        | ok ks ρ2 ω2 =>
          simp only [ec, Out.thenB] at h
          intro Z2 H2 j2 ra2 k2 x2
          obtain ⟨kvs, hk, rk⟩ := ra2
          have ex : Ext B.g H1 H2 := ExtD.after gr.ext x2 hD
          have kp : Kp Z1 H1 Z2 H2 := kk.trans k2
          have jf := J.rest j1 (j2.ofBlk0 (R := (· = Dn))) kp hno
          have hn : ∀ (i : Nat) (d : D), (restF vs ρ1 ρ2)[i]? = some (.own d) → σ[i]? ≠ some (some (.ref Dn)) := fun i d hi hs => by
            by_cases hiv : i ∈ vs
            · have hlt : i < ρ2.length := by
                have := (List.getElem?_eq_some_iff.mp hi).1
                rw [restF_len] at this; exact this
              rw [restF_in hiv hlt] at hi
              have hl2 : ρ2.length = ρ1.length := by rw [j2.len, wipe_length, j1.len]
              have hlt1 : i < ρ1.length := by rw [← hl2]; exact hlt
              have := List.all_eq_true.mp hno i hiv
              rw [List.getD_eq_getElem?_getD, List.getElem?_eq_getElem hlt1] at hi
              rw [List.getElem?_eq_getElem hlt1] at this
              have hi' : ρ1[i] = .own d := by simpa using hi
              rw [hi'] at this
              simp [isOwn] at this
            · rw [restF_out hiv] at hi
              obtain ⟨p, q1, q2, q3, q4, q5, q6⟩ := j2.own i d hi
              rw [L2.wipe_out hiv, hs] at q1
              cases q1
              exact q6 (.inr rfl)
          exact h Z2 Dn kvs H2 (e1.trans ex) (fun p z => kp.sub p (z1 p z)) jf hk rk (j2.res Dn (.inr rfl)).1 n2 n3 n5 hn
    · simp only [hno, if_false] at h
      exact h.elim
end
section
variable {X : Cx} {B : Bc} {e : Expr} {pos : Pos} {elt tg iter tg1 iter1 : Expr} {ifs ifs1 : List Expr} {scope : Scope} {own : List (Str × Nat)} {slots slots1 vs1 : List Nat} {it it1 : EM (List D)} {t t1 : TM} {tt tt1 : EM Bool} {te : EM D} {i : Nat} {y : Str} {py spos : Pos}
theorem f_lc2 (hc : X.calm = true) (hN : X.N.Nodup) (hi : PI X tg iter (RdIB B it)) (ok : BlkOk X.N X.env.scope scope own) (hsl : ∀ i ∈ slots, i ∈ own.map (·.2)) (hsl1 : ∀ i ∈ slots1, i ∈ vs1) (hv : ∀ i ∈ vs1, i ∈ own.map (·.2))
    (hg : ∀ (R : Addr → Prop) (s : Shared) (H : Hp) (C : Addr) (cl : List (Str × Addr)) (fp : List Addr), PG (X.blk s H scope (compEnvC scope cl C X.env) fp) tg (RdG (B.blk R) t slots))
    (ht : ∀ (R : Addr → Prop) (s : Shared) (H : Hp) (C : Addr) (cl : List (Str × Addr)) (fp : List Addr), PTs (X.blk s H scope (compEnvC scope cl C X.env) fp) ifs (RdT (B.blk R) tt))
    (hi1 : ∀ (R : Addr → Prop) (s : Shared) (H : Hp) (C : Addr) (cl : List (Str × Addr)) (fp : List Addr), PI (X.blk s H scope (compEnvC scope cl C X.env) fp) tg1 iter1 (RdI (B.blk R) it1))
    (hg1 : ∀ (R : Addr → Prop) (s : Shared) (H : Hp) (C : Addr) (cl : List (Str × Addr)) (fp : List Addr), PG (X.blk s H scope (compEnvC scope cl C X.env) fp) tg1 (RdG (B.blk R) t1 slots1))
    (ht1 : ∀ (R : Addr → Prop) (s : Shared) (H : Hp) (C : Addr) (cl : List (Str × Addr)) (fp : List Addr), PTs (X.blk s H scope (compEnvC scope cl C X.env) fp) ifs1 (RdT (B.blk R) tt1))
    (he : ∀ (R : Addr → Prop) (s : Shared) (H : Hp) (C : Addr) (cl : List (Str × Addr)) (fp : List Addr), PE (X.blk s H scope (compEnvC scope cl C X.env) fp) elt (RdE (B.blk R) te))
    (hs : ∀ x, foldedSetIterable iter X.env x = pure x := by intro _; rfl) (hs1 : ∀ env x, foldedSetIterable iter1 env x = pure x := by intro _ _; rfl) :
    PE X (.ListComp elt [⟨tg, iter, ifs, 0⟩, ⟨tg1, iter1, ifs1, 0⟩] scope pos) (RdF B (lc2M (own.map (·.2)) vs1 it t tt it1 t1 tt1 te)) :=
  PE.imp (pe_lc2 hc hN hi ok hv (fun s H C cl fp => x_g fun R => hg R s H C cl fp) (fun s H C cl fp => x_t fun R => ht R s H C cl fp) (fun s H C cl fp => x_if fun R => hi1 R s H C cl fp) (fun s H C cl fp => x_g fun R => hg1 R s H C cl fp) (fun s H C cl fp => x_t fun R => ht1 R s H C cl fp) (fun s H C cl fp => x_e fun R => he R s H C cl fp) hs hs1) (i_lc2 hsl hsl1 hv)
theorem sSetLc2 (hc : X.calm = true) (hN : X.N.Nodup) (hy : X.N[i]? = some y) (hyl : X.env.scope.names.lookup y = some .local) (hsw : swapsWith (.ListComp elt [⟨tg, iter, ifs, 0⟩, ⟨tg1, iter1, ifs1, 0⟩] scope pos) (some (.Name y py)) spos.line X.env = pure true)
    (hi : PI X tg iter (RdIB B it)) (ok : BlkOk X.N X.env.scope scope own) (hsl : ∀ i ∈ slots, i ∈ own.map (·.2)) (hsl1 : ∀ i ∈ slots1, i ∈ vs1) (hv : ∀ i ∈ vs1, i ∈ own.map (·.2))
    (hg : ∀ (R : Addr → Prop) (s : Shared) (H : Hp) (C : Addr) (cl : List (Str × Addr)) (fp : List Addr), PG (X.blk s H scope (compEnvC scope cl C X.env) fp) tg (RdG (B.blk R) t slots))
    (ht : ∀ (R : Addr → Prop) (s : Shared) (H : Hp) (C : Addr) (cl : List (Str × Addr)) (fp : List Addr), PTs (X.blk s H scope (compEnvC scope cl C X.env) fp) ifs (RdT (B.blk R) tt))
    (hi1 : ∀ (R : Addr → Prop) (s : Shared) (H : Hp) (C : Addr) (cl : List (Str × Addr)) (fp : List Addr), PI (X.blk s H scope (compEnvC scope cl C X.env) fp) tg1 iter1 (RdI (B.blk R) it1))
    (hg1 : ∀ (R : Addr → Prop) (s : Shared) (H : Hp) (C : Addr) (cl : List (Str × Addr)) (fp : List Addr), PG (X.blk s H scope (compEnvC scope cl C X.env) fp) tg1 (RdG (B.blk R) t1 slots1))
    (ht1 : ∀ (R : Addr → Prop) (s : Shared) (H : Hp) (C : Addr) (cl : List (Str × Addr)) (fp : List Addr), PTs (X.blk s H scope (compEnvC scope cl C X.env) fp) ifs1 (RdT (B.blk R) tt1))
    (he : ∀ (R : Addr → Prop) (s : Shared) (H : Hp) (C : Addr) (cl : List (Str × Addr)) (fp : List Addr), PE (X.blk s H scope (compEnvC scope cl C X.env) fp) elt (RdE (B.blk R) te))
    (hs : ∀ x, foldedSetIterable iter X.env x = pure x := by intro _; rfl) (hs1 : ∀ env x, foldedSetIterable iter1 env x = pure x := by intro _ _; rfl) :
    PS X (.Assign [.Name y py] (.ListComp elt [⟨tg, iter, ifs, 0⟩, ⟨tg1, iter1, ifs1, 0⟩] scope pos) spos) (RdS B (setS i (frz (lc2M (own.map (·.2)) vs1 it t tt it1 t1 tt1 te)))) :=
  PS.imp (ps_setLc2 hc hN hy hyl hsw hi ok hv (fun s H C cl fp => x_g fun R => hg R s H C cl fp) (fun s H C cl fp => x_t fun R => ht R s H C cl fp) (fun s H C cl fp => x_if fun R => hi1 R s H C cl fp) (fun s H C cl fp => x_g fun R => hg1 R s H C cl fp) (fun s H C cl fp => x_t fun R => ht1 R s H C cl fp) (fun s H C cl fp => x_e fun R => he R s H C cl fp) hs hs1) fun D σ H q => i_lc2 hsl hsl1 hv σ H _ (i_frz σ H _ (i_set D σ H q))
theorem sOwnLc2 (hc : X.calm = true) (hN : X.N.Nodup) (hy : X.N[i]? = some y) (hyl : X.env.scope.names.lookup y = some .local) (hsw : swapsWith (.ListComp elt [⟨tg, iter, ifs, 0⟩, ⟨tg1, iter1, ifs1, 0⟩] scope pos) (some (.Name y py)) spos.line X.env = pure true)
    (hi : PI X tg iter (RdIB B it)) (ok : BlkOk X.N X.env.scope scope own) (hsl : ∀ i ∈ slots, i ∈ own.map (·.2)) (hsl1 : ∀ i ∈ slots1, i ∈ vs1) (hv : ∀ i ∈ vs1, i ∈ own.map (·.2))
    (hg : ∀ (R : Addr → Prop) (s : Shared) (H : Hp) (C : Addr) (cl : List (Str × Addr)) (fp : List Addr), PG (X.blk s H scope (compEnvC scope cl C X.env) fp) tg (RdG (B.blk R) t slots))
    (ht : ∀ (R : Addr → Prop) (s : Shared) (H : Hp) (C : Addr) (cl : List (Str × Addr)) (fp : List Addr), PTs (X.blk s H scope (compEnvC scope cl C X.env) fp) ifs (RdT (B.blk R) tt))
    (hi1 : ∀ (R : Addr → Prop) (s : Shared) (H : Hp) (C : Addr) (cl : List (Str × Addr)) (fp : List Addr), PI (X.blk s H scope (compEnvC scope cl C X.env) fp) tg1 iter1 (RdI (B.blk R) it1))
    (hg1 : ∀ (R : Addr → Prop) (s : Shared) (H : Hp) (C : Addr) (cl : List (Str × Addr)) (fp : List Addr), PG (X.blk s H scope (compEnvC scope cl C X.env) fp) tg1 (RdG (B.blk R) t1 slots1))
    (ht1 : ∀ (R : Addr → Prop) (s : Shared) (H : Hp) (C : Addr) (cl : List (Str × Addr)) (fp : List Addr), PTs (X.blk s H scope (compEnvC scope cl C X.env) fp) ifs1 (RdT (B.blk R) tt1))
    (he : ∀ (R : Addr → Prop) (s : Shared) (H : Hp) (C : Addr) (cl : List (Str × Addr)) (fp : List Addr), PE (X.blk s H scope (compEnvC scope cl C X.env) fp) elt (RdE (B.blk R) te))
    (hs : ∀ x, foldedSetIterable iter X.env x = pure x := by intro _; rfl) (hs1 : ∀ env x, foldedSetIterable iter1 env x = pure x := by intro _ _; rfl) :
    PS X (.Assign [.Name y py] (.ListComp elt [⟨tg, iter, ifs, 0⟩, ⟨tg1, iter1, ifs1, 0⟩] scope pos) spos) (RdS B (ownS i (lc2M (own.map (·.2)) vs1 it t tt it1 t1 tt1 te))) :=
  PS.imp (ps_setLc2 hc hN hy hyl hsw hi ok hv (fun s H C cl fp => x_g fun R => hg R s H C cl fp) (fun s H C cl fp => x_t fun R => ht R s H C cl fp) (fun s H C cl fp => x_if fun R => hi1 R s H C cl fp) (fun s H C cl fp => x_g fun R => hg1 R s H C cl fp) (fun s H C cl fp => x_t fun R => ht1 R s H C cl fp) (fun s H C cl fp => x_e fun R => he R s H C cl fp) hs hs1) fun D σ H q => i_lc2 hsl hsl1 hv σ H _ (i_own D σ H q)
end
end L2.Fl

namespace L2.Fl
open PySem PySem.Spec PyProof.Rows

/-! ### min and max of three and four whole numbers -/
def runB (lt : Int → Int → Bool) : Int → List Int → Int
  | m, [] => m
  | m, x :: r => runB lt (if lt x m then x else m) r
theorem argBest_run (lt : Int → Int → Bool) (xs : Array (Int × Tok)) : ∀ (l : List (Int × Tok)) (k : Nat), xs.toList.drop (k + 1) = l → numAt xs (argBest (fun i j => lt (numAt xs i) (numAt xs j)) (k + l.length)) = runB lt (numAt xs (argBest (fun i j => lt (numAt xs i) (numAt xs j)) k)) (l.map (·.1))
  | [], k, _ => by simp [runB]
  | p :: r, k, h => by
    have h1 : xs.toList.drop (k + 1 + 1) = r := by rw [← List.tail_drop, h]; rfl
    have h2 : numAt xs (k + 1) = p.1 := by
      have : xs.toList[k + 1]? = some p := by
        have := List.getElem?_drop (xs := xs.toList) (i := k + 1) (j := 0)
        rw [h] at this
        simpa using this.symm
      simp [numAt, ← Array.getElem?_toList, this]
    have := argBest_run lt xs r (k + 1) h1
    rw [List.length_cons, show k + (r.length + 1) = k + 1 + r.length from by omega, this]
    simp only [List.map_cons, runB]
    congr 1
    simp only [argBest]
    by_cases c : lt p.1 (numAt xs (argBest (fun i j => lt (numAt xs i) (numAt xs j)) k)) = true
    · rw [if_pos c, if_pos (by rw [h2]; exact c), h2]
    · rw [if_neg c, if_neg (by rw [h2]; exact c)]
section
variable {prog : Program} {w : World} {A : Around} {E : Value → Shared → Prop} {s : Shared}
theorem args_min4 (a b c d : Value) : argsOk "min" ⟨[a, b, c, d], []⟩ := by unfold argsOk; kernel_rfl
theorem min_many {u0 u1 : Value} {us : List Value} {Q : Value → Shared → Prop} (ha : argsOk "min" ⟨u0 :: u1 :: us, []⟩) (hz : sizeOk (.seq (u0 :: u1 :: us).toArray))
    (h : wpAny (model prog w) A.in1 (pyIter (.ref s.heap.objs.size)) (fun it s₂ => ∃ I fp wr n P St bt, it = .ref I ∧ Walks prog w A.in1 I fp wr n P St ∧ St 0 s₂.heap ∧ (∀ b ∈ fp, b < s₂.heap.objs.size) ∧ 0 < n ∧ CmpOf prog w A.in1 .Lt P bt ∧
      ∀ v h' tk, P (argBest bt (n - 1)) v → (∀ b o, b ∉ wr → s₂.heap.get? b = some o → h'.get? b = some o) → Q v { s₂ with heap := h', toks := tk }) E
      { s with heap := s.heap.push { cls := .type "tuple", data := .seq (u0 :: u1 :: us).toArray } }) :
    wpAny (model prog w) A (call (.builtin "min") (u0 :: u1 :: us)) Q E s := by
  have hname : (toString "min" ++ toString ".loop" : String) = "min.loop" := by decide
  refine call_function_tree F.kind_min F.plain_min F.entry_min ha ?_
  show wpAny _ A.in1 (Builtin.Builtins.bindParams "min" ["key", "default"] 0 ⟨[], []⟩ >>= _) _ _ s
  refine wpAny_bind (wpAny_of_eq (show Builtin.Builtins.bindParams "min" ["key", "default"] 0 ⟨[], []⟩ = pure [none, none] from rfl) ?_)
  show wpAny _ A.in1 (newTuple (u0 :: u1 :: us) >>= _) _ _ s
  refine wpAny_bind (wpAny_newObj_type (hd := hz) ?_)
  refine wpAny_bind (wpAny_mono h (fun it s₂ h₂ => ?_) fun _ _ e => e)
  obtain ⟨I, fp, wr, n, P, St, bt, rfl, W, hst, hfp, hn, hcmp, hQ⟩ := h₂
  refine wpAny_bind (wpAny_newObj_type ?_)
  have hSf : s₂.heap.objs.size ∉ fp := fun hm => Nat.lt_irrefl _ (hfp _ hm)
  rw [hname]
  refine wpAny_pure ⟨plainId_quiet F.plain_min_loop _, codeAny_min_loop_first W bt hcmp s₂.heap.objs.size hSf hn (W.frame _ _ _ hst fun b _ o e => Heap.get?_push_of_some _ e) (Heap.get?_push_size _ rfl) fun v h' tk hP hk => ?_⟩
  exact hQ v h' tk hP fun b o hbw e => hk b o hbw (Nat.ne_of_lt (Heap.lt_size e)) (Heap.get?_push_of_some _ e)
theorem min_many_ints {i0 i1 : Int × Tok} {is : List (Int × Tok)} {Q : Value → Shared → Prop} (hh : A.handled = none) (hl : is.length ≤ 13) (ha : argsOk "min" ⟨(Value.int i0.1 i0.2 :: Value.int i1.1 i1.2 :: is.map fun p => Value.int p.1 p.2), []⟩)
    (h : ∀ h' tk t, (∀ d o, s.heap.get? d = some o → h'.get? d = some o) → Q (.int (runB (fun x m => decide (x < m)) i0.1 ((i1 :: is).map (·.1))) t) { s with heap := h', toks := tk }) :
    wpAny (model prog w) A (call (.builtin "min") (Value.int i0.1 i0.2 :: Value.int i1.1 i1.2 :: is.map fun p => Value.int p.1 p.2)) Q E s := by
  have hA : ((Value.int i0.1 i0.2 :: Value.int i1.1 i1.2 :: is.map fun p => Value.int p.1 p.2).toArray : Array Value) = intItems (i0 :: i1 :: is).toArray := by simp [intItems]
  have hT : (s.heap.push { cls := .type "tuple", data := .seq ((Value.int i0.1 i0.2 :: Value.int i1.1 i1.2 :: is.map fun p => Value.int p.1 p.2).toArray) }).IsTuple s.heap.objs.size (intItems (i0 :: i1 :: is).toArray) := ⟨_, Heap.get?_push_size _ rfl, rfl, 0, by rw [hA]⟩
  refine min_many ha (by show _ ≤ _; rw [sizeLine_eq]; simp; omega) (wpAny_pyIter_tuple hT ?_)
  have hsz : (s.heap.push { cls := .type "tuple", data := .seq ((Value.int i0.1 i0.2 :: Value.int i1.1 i1.2 :: is.map fun p => Value.int p.1 p.2).toArray) }).objs.size = s.heap.objs.size + 1 := Heap.size_push ..
  refine ⟨_, [_, s.heap.objs.size], [_], _, _, _, _, rfl, Walks.tuple (A := A.in1) hh _ s.heap.objs.size (by rw [hsz]; exact Nat.ne_of_lt (Nat.lt_succ_self _)) (intItems (i0 :: i1 :: is).toArray),
    ⟨⟨_, Heap.get?_push_size _ rfl, rfl, rfl⟩, hT.push _⟩, fun d hd => ?_, by simp [intItems], CmpOf.ints_lt (numAt (i0 :: i1 :: is).toArray) (fun _ _ => intItems_at), fun v h' tk hP hk => ?_⟩
  · show d < ((s.heap.push _).push _).objs.size
    rw [Heap.size_push, hsz]
    rcases List.mem_cons.mp hd with rfl | hd
    · rw [hsz]; exact Nat.lt_succ_self _
    · rcases List.mem_cons.mp hd with rfl | hd
      · exact Nat.lt_succ_of_lt (Nat.lt_succ_self _)
      · cases hd
  · have hold : ∀ d o, s.heap.get? d = some o → h'.get? d = some o := fun d o e => by
      refine hk d o (fun hm => ?_) (Heap.get?_push_of_some _ (Heap.get?_push_of_some _ e))
      rcases List.mem_cons.mp hm with e1 | hm
      · have := Heap.lt_size e; rw [e1, hsz] at this; exact Nat.lt_irrefl _ (Nat.lt_of_succ_lt this)
      · cases hm
    obtain ⟨t, hv⟩ := intItems_at hP
    have e1 : (intItems (i0 :: i1 :: is).toArray).size - 1 = 0 + (i1 :: is).length := by simp [intItems]
    have := argBest_run (fun x m => decide (x < m)) (i0 :: i1 :: is).toArray (i1 :: is) 0 rfl
    rw [← e1] at this
    rw [hv, this]
    exact h h' tk t hold
end
def minLD : List D → Option D
  | .int i0 :: .int i1 :: r => (ints? r).map fun is => .int (runB (fun x m => decide (x < m)) i0 (i1 :: is))
  | _ => none
def rMinN (n : Nat) : List V → Hp → VK → Prop := fun xs H Q => ∃ i0 i1 is, is.length = n ∧ xs = (i0 :: i1 :: is).map V.int ∧ Q (.int (runB (fun x m => decide (x < m)) i0 (i1 :: is))) H
theorem vals_ints : ∀ {is : List Int} {us : List Value}, Vals (is.map V.int) us → ∃ ps : List (Int × Tok), us = ps.map (fun p => Value.int p.1 p.2) ∧ ps.map (·.1) = is
  | [], us, r => by cases r; exact ⟨[], rfl, rfl⟩
  | i :: is, us, r => by
    rw [List.map_cons] at r
    cases r with
    | cons h t =>
      obtain ⟨ps, rfl, e⟩ := vals_ints t
      obtain ⟨k, rfl⟩ := h
      exact ⟨(i, k) :: ps, rfl, by rw [List.map_cons, e]⟩
section
variable {X : Cx} {B : Bc} {e : Expr} {es : List Expr} {p pos : Pos} {f : EM (List D)}
theorem call_minN {n : Nat} (hc : X.calm = true) (hn : n ≤ 12) (ha : ∀ us : List Value, us.length = n + 2 → argsOk "min" ⟨us, []⟩) : CallR X (.builtin "min") (rMinN n) := by
  intro pins s σ H xs us Q I r h
  obtain ⟨i0, i1, is, hl, rfl, q⟩ := h
  obtain ⟨ps, rfl, e⟩ := vals_ints r
  match ps, e with
  | p0 :: p1 :: ps, e =>
    simp only [List.map_cons, List.cons.injEq] at e
    obtain ⟨rfl, rfl, rfl⟩ := e
    refine min_many_ints (I.ok.hd hc) (by have := hn; simp at hl; omega) (ha _ (by simp at hl ⊢; omega)) fun h' tk t k => ⟨V.int _, H, I.kept k, ⟨t, rfl⟩, ?_⟩
    simp only [List.map_cons]
    exact q
theorem args4 : ∀ us : List Value, us.length = 2 + 2 → argsOk "min" ⟨us, []⟩ := fun us h => by
  match us, h with
  | [a, b, c, d], _ => exact args_min4 a b c d
theorem args3 : ∀ us : List Value, us.length = 1 + 2 → argsOk "min" ⟨us, []⟩ := fun us h => by
  match us, h with
  | [a, b, c], _ => exact F.args_min3 a b c
def minLN (n : Nat) : List D → Option D := fun ds => if ds.length = n + 2 then minLD ds else none
def minNM (n : Nat) (f : EM (List D)) : EM D := fun ρ ω => (f ρ ω).andThen fun ds => optM (minLN n ds)
theorem eMinN {n : Nat} (hc : X.calm = true) (hn : n ≤ 12) (hb : Bn X.mg) (ar : ∀ us : List Value, us.length = n + 2 → argsOk "min" ⟨us, []⟩) (ha : PA X (e :: es) (RdA B f)) (hg : Gl X "min" := by rfl) (he : starEach (e :: es) X.env = (false, eval e X.env) :: starEach es X.env := by rfl) (hpl : (backTo pos (starEach es X.env)).any (·.1) = false := by rfl) :
    PE X (.Call (.Name "min" p) (e :: es) [] pos) (RdE B (minNM n f)) := PE.imp (pe_callB (call_minN hc hn ar) hg hb.min (by decide +kernel) ha (he := he) (hpl := hpl)) fun σ H Q ⟨Z, ρ, ω, j, h⟩ => by
  refine ⟨Z, ρ, ω, j, ?_⟩
  unfold minNM at h
  cases ea : f ρ ω with
  | bad => simp only [ea, Out.andThen] at h
  | exc c ω' => simp only [ea, Out.andThen] at h; exact h
  | ok ds ρ1 ω1 =>
    simp only [ea, Out.andThen, optM] at h
    intro Z1 vs H1 e1 z1 j1 r1
    unfold minLN at h
    by_cases hl : ds.length = n + 2
    · simp only [hl, if_true] at h
      match ds, hl, r1, h with
      | .int i0 :: .int i1 :: r, hl, r1, h =>
        simp only [minLD] at h
        cases ei : ints? r with
        | none => simp only [ei, Option.map_none] at h
        | some is =>
          simp only [ei, Option.map_some] at h
          have er := ints_of ei
          subst er
          rcases RDs.ints (is := i0 :: i1 :: is) r1 with z | z
          · subst z
            exact ⟨i0, i1, is, by simpa using hl, rfl, h Z1 _ H1 e1 z1 j1 (.int _)⟩
          · exact z.elim
    · simp only [hl, if_false] at h
end
/-! ### the keys of a frozen dict with tuples as keys -/
def keysTI (f : EM D) : EM (List D) := fun ρ ω => (f ρ ω).andThen fun d => optM (match d with
  | .dctG ks => some (ks.map (·.1))
  | _ => none)
section
variable {B : Bc} {K : PySem.W.Frag} {X : Cx} {tg iter : Expr}
theorem RT.keys {tk : Nat → Option V} {Z : Addr → Prop} {H : Hp} : ∀ {ks : List (D × D)} {kvs : List (List Key × V)} {k : List Key} {v : V}, RT tk Z H ks kvs → ∀ i : Nat, kvs[i]? = some (k, v) → (ks.map (·.1))[i]? = some (.tup (k.map kD))
  | _, _, _, _, .nil, i, h => by simp at h
  | _, _, _, _, .cons r t, 0, h => by simp at h; simp [h.1]
  | _, _, _, _, .cons r t, i + 1, h => by
    simp only [List.getElem?_cons_succ, List.map_cons] at h ⊢
    exact RT.keys t i h
theorem rds_kD {tk : Nat → Option V} {Z : Addr → Prop} {H : Hp} : ∀ k : List Key, RDs tk Z H (k.map kD) (k.map kV)
  | [] => .nil
  | k :: ks => .cons (rd_key k) (rds_kD ks)
theorem wk_keysT {g : Gd} {R : (Addr → Prop) → Hp → Prop} {p : Addr} {o : Obj} {ks : List (D × D)} {kvs : List (List Key × V)} (hl : ks.length = kvs.length) (hG : ∀ Z H, R Z H → H p = some (.frz o (.dT kvs))) (hr : ∀ Z H, R Z H → RT g.tk Z H ks kvs) : Wk g R (Itkt p o kvs) (ks.map (·.1)) :=
  ⟨_, _, by rw [List.length_map, hl]; exact walk_keysT, hG, fun i H x H' Z ω hi k r y => by
    obtain ⟨rfl, kk, v, q, e, rfl, hq⟩ := y
    exact ⟨Z, .tup (kk.map kD), .refl, (hr Z _ r).keys i e, .tup hq (rds_kD kk)⟩⟩
theorem w_keysT {f : EM D} (h : PE X iter (RdE B f)) : PI X tg iter (RdI B (keysTI f)) := PI.imp (pi_keys h) fun σ H R ⟨Z, ρ, ω, j, q⟩ => by
  refine ⟨Z, ρ, ω, j, ?_⟩
  unfold keysTI at q
  cases ea : f ρ ω with
  | bad => simp only [ea, Out.andThen] at q
  | exc c ω' => simp only [ea, Out.andThen] at q; exact q
  | ok d ρ1 ω1 =>
    simp only [ea, Out.andThen, optM] at q
    intro Z1 v H1 e1 z1 j1 r1
    cases d with
    | dctG ks =>
      simp only at q
      obtain ⟨p, kvs, o, rfl, zp, hp, rk⟩ := BR.dctG (g := B.g) (.inl r1)
      exact ⟨p, o, rfl, .inr ⟨kvs, hp, q Z1 H1 _ e1 z1 j1 (wk_keysT rk.length (fun Z H r => r.keep _ _ (.inl zp) hp) fun Z H r => rk.mono r.sub r.keep)⟩⟩
    | _ => simp only at q
end
/-! ### d.get(k, x) -/
def slD : Option Slot → Option D
  | some (.own d) => some d
  | some (.val d) => some d
  | _ => none
def isDD : D → Bool
  | .dct _ => true
  | .dctT _ => true
  | .dctF _ => true
  | .dctG _ => true
  | _ => false
def dget2M (i : Nat) (fk fx : EM D) : EM D := fun ρ ω => match slD ρ[i]? with
  | some d0 => if isDD d0 then (fk ρ ω).andThen fun k ρ ω => (fx ρ ω).andThen fun z ρ ω => (match slD ρ[i]? with
    | some d => optM ((dlook d k).map fun r => r.getD z) ρ ω
    | none => .bad) else .bad
  | none => .bad
section
variable {X : Cx} {B : Bc} {o e f : Expr} {apos cpos : Pos}
theorem J.slot {Z : Addr → Prop} {ρ : Fr} {σ : L2.St} {H : Hp} {ω : W3} (j : J B Z ρ σ H ω) {i : Nat} {d : D} (h : slD ρ[i]? = some d) : ∃ v, σ[i]? = some (some v) ∧ BR B.g Z H d v := by
  cases e : ρ[i]? with
  | none => rw [e] at h; cases h
  | some s =>
    rw [e] at h
    cases s with
    | no => cases h
    | val d' =>
      cases h
      obtain ⟨v, h1, h2⟩ := j.val i _ e
      exact ⟨v, h1, .inl h2⟩
    | own d' =>
      cases h
      obtain ⟨p, h1, h2, h3, h4, _⟩ := j.own i _ e
      exact ⟨.ref p, h1, .inr ⟨p, rfl, h4, h2⟩⟩
theorem isD_br {g : Gd} {Z : Addr → Prop} {H : Hp} {d : D} {v : V} (h : isDD d = true) (r : BR g Z H d v) : ∃ p, v = .ref p ∧ IsD H p := by
  cases d with
  | dct ks => obtain ⟨p, rfl, kvs, h1, _⟩ := r.dct; exact ⟨p, rfl, .inl ⟨kvs, .inl h1⟩⟩
  | dctT ks => obtain ⟨p, rfl, kvs, h1, _⟩ := r.dctT; exact ⟨p, rfl, .inr ⟨kvs, .inl h1⟩⟩
  | dctF ks => obtain ⟨p, kvs, o, rfl, _, h1, _⟩ := r.dctF; exact ⟨p, rfl, .inl ⟨kvs, .inr ⟨o, h1⟩⟩⟩
  | dctG ks => obtain ⟨p, kvs, o, rfl, _, h1, _⟩ := r.dctG; exact ⟨p, rfl, .inr ⟨kvs, .inr ⟨o, h1⟩⟩⟩
  | _ => cases h
theorem i_dget2 {i : Nat} {fk fx : EM D} : ∀ σ H Q, RdE B (dget2M i fk fx) σ H Q → tDGet2 (tVar i) (RdE B fk) (RdE B fx) σ H Q := fun σ H Q ⟨Z, ρ, ω, j, q⟩ => by
  unfold dget2M at q
  cases e0 : slD ρ[i]? with
  | none => simp only [e0] at q
  | some d0 =>
    simp only [e0] at q
    by_cases hd : isDD d0 = true
    · simp only [hd, if_true] at q
      obtain ⟨v, hv, br⟩ := j.slot e0
      obtain ⟨p, rfl, ip⟩ := isD_br hd br
      refine ⟨.ref p, hv, p, rfl, ip, Z, ρ, ω, j, ?_⟩
      cases ea : fk ρ ω with
      | bad => simp only [ea, Out.andThen] at q
      | exc c ω' => simp only [ea, Out.andThen] at q; exact q
      | ok k ρ1 ω1 =>
        simp only [ea, Out.andThen] at q
        intro Z1 y H1 e1 z1 j1 r1
        refine ⟨Z1, ρ1, ω1, j1, ?_⟩
        cases eb : fx ρ1 ω1 with
        | bad => simp only [eb] at q
        | exc c ω' => simp only [eb] at q; exact q
        | ok z ρ2 ω2 =>
          simp only [eb] at q
          intro Z2 zv H2 e2 z2 j2 r2
          cases e3 : slD ρ2[i]? with
          | none => simp only [e3] at q
          | some d =>
            simp only [e3] at q
            obtain ⟨v', hv', br'⟩ := j2.slot e3
            rw [hv] at hv'
            cases hv'
            cases el : dlook d k with
            | none => simp only [el, Option.map_none, optM] at q
            | some r =>
              simp only [el, Option.map_some, optM] at q
              obtain ⟨p', o', ep, hg, rr⟩ := dget_br br' (.inl (r1.ext j1.good z2 e2)) el
              cases ep
              refine ⟨o', hg, q Z2 _ H2 (e1.trans e2) (fun p z => z2 p (z1 p z)) j2 ?_⟩
              rcases rr with ⟨rfl, rfl⟩ | ⟨d', v', rfl, rfl, r⟩
              · exact r2
              · exact r
    · simp only [hd, if_false] at q
      exact q.elim
theorem eDGet2 {i : Nat} {k : Nat} {fk fx : EM D} (hr : Room k X.A) (ho : PE X o (tVar i)) (he : PE X e (RdE B fk)) (hf : PE X f (RdE B fx)) (m : M2 X o "get" apos e f cpos) : PE X (.Call (.Attribute o "get" apos) [e, f] [] cpos) (RdE B (dget2M i fk fx)) :=
  PE.imp (pe_dget2 (room1 hr) ho he hf m) i_dget2
end
/-! ### {k: v}, k a tuple, one's own -/
def tDispT (tk tv : TE) : TE := fun σ H Q => ∀ p, H p = none → tk σ (upd H p (.dT [])) fun x H1 => tv σ H1 fun y H2 => H2 p = some (.dT []) ∧ ∃ (k : List Key) (q : Addr), x = .ref q ∧ H2 q = some (.tup (k.map kV)) ∧ Q (.ref p) (upd H2 p (.dT [(k, y)]))
theorem pe_dispT {X : Cx} {pos : Pos} {ek ev : Expr} {tk tv : TE} (hu : X.A.units + 1 < cLine) (hk : PE X ek tk) (hv : PE X ev tv) : PE X (.Dict [some ek] [ev] pos) (tDispT tk tv) := by
  refine ⟨fun pins s σ H Q I q => ?_⟩
  have hn := I.hok.fresh (Nat.le_refl s.heap.objs.size)
  have I1 := I.laid (a := s.heap.objs.size) (o := .dT []) (h' := s.heap.push { cls := .type "dict", data := .dict #[] }) (t' := s.toks) (fun _ _ q => Heap.get?_push_of_some _ q) (Nat.le_refl _) (dt_empty s.heap I.big)
  rw [arm_eval_Dict, zip_pairTrees [some ek] [ev] X.env pos rfl rfl, dictDisplay_pairs _ (by intro z; have := congrArg List.length z; rw [pairTrees_length _ _ _ _ rfl rfl] at this; cases this) (by rw [pairTrees_length _ _ _ _ rfl rfl]; show (1 : Nat) < 17; decide)]
  refine wpAny_bind (wpAny_standAt (wpAny_bind (wpAny_subDictH (knd := tupleKind (mixKind X.prog X.w)) (show X.A.units < cLine by omega) (by rw [pairTrees_length _ _ _ _ rfl rfl]; show (1 : Nat) ≤ 15; decide) ?_)))
  refine pairTrees_cons_walk (thn (hk.run pins _ σ _ _ I1 (q _ hn)) fun u s1 ⟨x, H1, I1, rx, q1⟩ => thn (hv.run pins s1 σ H1 _ I1 q1) fun w2 s2 ⟨y, H2, I2, ry, hD, k, a, ex, ha, q2⟩ => pairTrees_nil_walk ?_)
  subst ex
  cases (show u = Value.ref a from rx)
  obtain ⟨z, hd, xs, rel, dd⟩ := dt_of I2.hok hD
  cases rel
  refine ⟨[(k, a, w2)], ⟨rfl, rfl, key_of I2.hok ha, True.intro⟩, dd, fun h' tk' dd' sb => wpAny_pure ⟨.ref s.heap.objs.size, _, ?_, rfl, q2⟩⟩
  obtain ⟨q, es, ep, hq, h2, h3, h4, _, h5⟩ := dd'
  refine d_write I2 (by rw [hD]; exact True.intro) sb ⟨q, hq⟩ ⟨by rw [sizeLine_eq]; simp, hd, [(k, a, w2)], ?_, q, es, ep, hq, h2, h3, h4, h5⟩
  refine .cons ⟨rfl, ?_, ry⟩ .nil
  rw [upd_ne (ne_of ha hD (fun z => nomatch z))]
  exact ha
def litTS (i : Nat) (fk fv : EM D) : SM := fun ρ ω => (fk ρ ω).stm fun k ρ ω => (fv ρ ω).stm fun v ρ ω => match keysOf k with
  | some kk => .nx (ρ.set i (.own (.dctT [(.tup (kk.map kD), v)]))) ω
  | none => .bad
/-- the reading for some reserved set -/
def ExR (B : Bc) (f : EM D) : TE := fun σ H Q => ∃ R, RdE (B.rsv R) f σ H Q
section
variable {X : Cx} {B : Bc} {st : Stmt} {e ek ev : Expr}
theorem x_r {f : EM D} (h : ∀ R, PE X e (RdE (B.rsv R) f)) : PE X e (ExR B f) := ⟨fun pins s σ H Q I ⟨R, q⟩ => (h R).run pins s σ H Q I q⟩
theorem s_litT {i : Nat} {fk fv : EM D} (h : PS X st (tAsg (tDispT (ExR B fk) (ExR B fv)) (gName i))) : PS X st (RdS B (litTS i fk fv)) := PS.imp h fun En σ H ⟨Z, ρ, ω, j, q⟩ => by
  intro p hp
  obtain ⟨n1, n2, n3, n5, n4⟩ := fresh_of j hp
  have gr : Grow B.g Z H Z (upd H p (.dT [])) := grow_new0 hp
  have jR : J (B.rsv fun q => q = p) Z ρ σ (upd H p (.dT [])) ω := (j.grow gr).toRsv fun q hq => by
    subst hq
    exact ⟨n1, by rw [upd_same]; simp, n4⟩
  refine ⟨fun q => q = p, Z, ρ, ω, jR, ?_⟩
  unfold litTS at q
  cases ea : fk ρ ω with
  | bad => simp only [ea, Out.stm] at q; exact q
  | exc c ω' => simp only [ea, Out.stm] at q; exact q
  | ok k ρ1 ω1 =>
    simp only [ea, Out.stm] at q
    intro Z1 x H1 e1 z1 j1 r1
    refine ⟨fun q => q = p, Z1, ρ1, ω1, j1, ?_⟩
    cases eb : fv ρ1 ω1 with
    | bad => simp only [eb] at q; exact q.elim
    | exc c ω' => simp only [eb] at q; exact q
    | ok v ρ2 ω2 =>
      simp only [eb] at q
      intro Z2 y H2 e2 z2 j2 r2
      cases ek : keysOf k with
      | none => simp only [ek] at q; exact q.elim
      | some kk =>
        simp only [ek] at q
        obtain ⟨b, rfl, hb⟩ := br_keys (g := B.g) (.inl (r1.ext j1.good z2 e2)) ek
        have hD : H2 p = some (.dT []) := e2.keep _ _ (e1.keep _ _ upd_same n2 fix_dT) n2 fix_dT
        refine ⟨hD, kk, b, rfl, hb, ?_⟩
        have nz := (j2.res p (.inr rfl)).1
        have ku : Kp Z2 H2 Z2 (upd H2 p (.dT [(kk, y)])) := kp_upd nz
        have j3 := j2.updR (B := B.rsv fun q => q = p) (o := .dT [(kk, y)]) (.inr rfl) n3 n2 hD fix_dT
        have hn : ∀ (i : Nat) (d : D), ρ2[i]? = some (.own d) → σ[i]? ≠ some (some (.ref p)) := fun i d ei hs => by
          obtain ⟨q, g1, _, _, _, _, g6⟩ := j2.own i d ei
          rw [hs] at g1
          cases g1
          exact g6 (.inr rfl)
        have j4 := (j3.ofRsv).setOwn (i := i) (p := p) (d := .dctT [(.tup (kk.map kD), v)]) (.dT upd_same (.cons (r2.kp ku) .nil)) nz n2 n3 n5 hn
        have kp : Kp Z H Z2 (upd H2 p (.dT [(kk, y)])) := (Kp.of j.good gr.sub gr.ext).trans ((Kp.of jR.good z1 e1).trans ((Kp.of j1.good z2 e2).trans ku))
        exact q Z2 _ _ kp j4
/-- x = y, both one's own: y is no more -/
def mvS (i k : Nat) : SM := fun ρ ω => match ρ[k]? with
  | some (.own d) => .nx ((ρ.set k .no).set i (.own d)) ω
  | _ => .bad
theorem s_mv {i k : Nat} (h : PS X st (tAsg (tVar k) (gName i))) : PS X st (RdS B (mvS i k)) := PS.imp h fun En σ H ⟨Z, ρ, ω, j, q⟩ => by
  unfold mvS at q
  split at q
  · rename_i d ei
    obtain ⟨p, h1, ro, nz, np, h0, nr⟩ := j.own k _ ei
    refine ⟨.ref p, h1, ?_⟩
    have hi : k < ρ.length := (List.getElem?_eq_some_iff.mp ei).1
    have hs : σ.set k (some (.ref p)) = σ := by
      refine List.ext_getElem? fun m => ?_
      by_cases c : k = m
      · subst c
        rw [List.getElem?_set_self (List.getElem?_eq_some_iff.mp h1).1, h1]
      · rw [List.getElem?_set_ne c]
    have j1 : J B Z (ρ.set k .no) σ H ω := J.unset (ix := k) (v := some (.ref p)) (by rw [hs]; exact j)
    have hn : ∀ (m : Nat) (e : D), (ρ.set k .no)[m]? = some (.own e) → σ[m]? ≠ some (some (.ref p)) := fun m e em hk => by
      by_cases c : k = m
      · subst c
        rw [List.getElem?_set_self hi] at em
        cases em
      · rw [List.getElem?_set_ne c] at em
        exact c (j.sep k m _ _ p ei em h1 hk)
    exact q Z _ _ .refl (j1.setOwn (i := i) ro nz np h0 nr hn)
  · exact q.elim
end
end L2.Fl

namespace L2.Fl
open PySem PySem.Spec PyProof.Rows

/-! ### isinstance(x, T), T a built-in type -/
def tyD : D → Option String
  | .non => some "NoneType"
  | .bl _ => some "bool"
  | .int _ => some "int"
  | .str _ => some "str"
  | .tup _ => some "tuple"
  | .ptup _ => some "tuple"
  | .lst _ => some "list"
  | .dct _ => some "dict"
  | .dctT _ => some "dict"
  | .dctF _ => some "dict"
  | _ => none
def isiB (a b : String) : Bool := a == b || (a == "bool" && b == "int")
def isiD (T : String) (d : D) : Option D := (tyD d).map fun t => .bl (isiB t T)
def rIsi1 (K : PySem.W.Frag) (T : String) : V → Hp → VK → Prop := fun x H Q => rIsi K [x, .ty T] H Q
theorem tyX_br {g : Gd} {K : PySem.W.Frag} {Z : Addr → Prop} {H : Hp} {d : D} {v : V} {t : String} (r : BR g Z H d v) (h : tyD d = some t) : TyX K H v (.type t) := by
  cases d with
  | non => cases h; cases (show v = .non from r.non); exact .base .non
  | bl b => cases h; rw [r.bl]; exact .base (.bl b)
  | int i => cases h; rw [r.int]; exact .base (.int i)
  | str s => cases h; rw [r.str]; exact .base (.str s)
  | tup ds => cases h; obtain ⟨p, vs, rfl, hp, _⟩ := r.tup; exact .base (.tup hp)
  | ptup ds => cases h; obtain ⟨p, vs, o, rfl, _, hp, _⟩ := r.ptup; exact .fTuple hp
  | lst ds => cases h; obtain ⟨p, vs, rfl, hp, _⟩ := r.lst; exact .base (.lst hp)
  | dct ks => cases h; obtain ⟨p, rfl, kvs, hp, _⟩ := r.dct; exact .base (.dK hp)
  | dctT ks => cases h; obtain ⟨p, rfl, kvs, hp, _⟩ := r.dctT; exact .base (.dT hp)
  | dctF ks => cases h; obtain ⟨p, kvs, o, rfl, _, hp, _⟩ := r.dctF; exact .fDict hp
  | _ => cases h
theorem sim_isi {g : Gd} {K : PySem.W.Frag} {T : String} (hT : ∀ a ∈ ["NoneType", "bool", "int", "str", "tuple", "list", "dict"], kitB a T = some (isiB a T)) : Sim1 g (rIsi1 K T) (isiD T) := fun Z H ω x a d Q G ra h hq => by
  unfold isiD at h
  obtain ⟨t, ht, rfl⟩ := Option.map_eq_some_iff.mp h
  have hm : t ∈ ["NoneType", "bool", "int", "str", "tuple", "list", "dict"] := by
    cases a <;> first
      | (cases ht; simp; done)
      | cases ht
  exact ⟨x, .ty T, .type t, .type T, isiB t T, rfl, .ty T, tyX_br ra ht, kit_ty (hT t hm), hq Z _ H .refl (.bl _)⟩
theorem isi_int : ∀ a ∈ ["NoneType", "bool", "int", "str", "tuple", "list", "dict"], kitB a "int" = some (isiB a "int") := by decide +kernel
theorem isi_bool : ∀ a ∈ ["NoneType", "bool", "int", "str", "tuple", "list", "dict"], kitB a "bool" = some (isiB a "bool") := by decide +kernel
theorem isi_tuple : ∀ a ∈ ["NoneType", "bool", "int", "str", "tuple", "list", "dict"], kitB a "tuple" = some (isiB a "tuple") := by decide +kernel
section
variable {X : Cx} {B : Bc} {a : Expr} {p p2 pos : Pos} {fa : EM D} {Ts : Str} {T : String}
theorem eIsi (hi : X.mg "isinstance" = none) (hm : X.mg Ts = none) (hv : bootBuiltins Ts = some (.type T)) (hT : ∀ a ∈ ["NoneType", "bool", "int", "str", "tuple", "list", "dict"], kitB a T = some (isiB a T)) (ha : PE X a (RdB B fa)) (hg : Gl X "isinstance" := by rfl) (hg2 : Gl X Ts := by rfl)
    (hn : Ts ≠ "__name__" := by decide) (hdb : (Ts == ("__debug__" : Str)) = false := by decide)
    (he : starEach [a, .Name Ts p2] X.env = (false, eval a X.env) :: starEach [.Name Ts p2] X.env := by rfl) (he2 : starEach [.Name Ts p2] X.env = (false, eval (.Name Ts p2) X.env) :: starEach [] X.env := by rfl) (hpl : (backTo pos (starEach [.Name Ts p2] X.env)).any (·.1) = false := by rfl) :
    PE X (.Call (.Name "isinstance" p) [a, .Name Ts p2] [] pos) (RdE B (op1 (isiD T) fa)) := m_op1 (sim_isi (K := X.K) hT) (fun ta ha => pe_callB (pos := pos) (p := p) (call_isi (X := X)) hg hi (by decide +kernel) (pa_cons ha (pa_cons (pe_bltn (v := .ty T) hg2 hm hv rfl hn hdb) pa_nil he2) he) (he := he) (hpl := hpl)) ha
end
end L2.Fl

namespace L2.Fl
open PySem PySem.Spec PyProof.Rows

/-! ### isinstance(e, C), e the exception that the suite holds, with or without a dict -/
def rIsEd (K : PySem.W.Frag) (D a : Addr) (dd : Option Addr) : List V → Hp → VK → Prop := fun xs H Q => ∃ (c : V) (cv : Value) (b : Bool), xs = [.ref a, c] ∧ DOk dd H ∧ (∀ u, RelV c u → u = cv) ∧ PySem.W.kitOne K (.ref D) cv = some b ∧ Q (.bl b) H
theorem call_isEd {X : Cx} {a D : Addr} {dd : Option Addr} {oe : Obj} {pn : List (Addr × Obj)} (C : ExcC X.K D) (hz : Zc (.ref D) dd oe) (hf : ∃ vs, oe.data = .fields vs) : CallR (X.suite a ((a, oe) :: pn)) (.builtin "isinstance") (rIsEd X.K D a dd) := by
  intro pins s σ H xs us Q I r h
  obtain ⟨c, cv, b, rfl, hd, hcv, e, q⟩ := h
  cases r with
  | cons rx rr =>
    cases rr with
    | cons rt rr =>
      cases rr
      cases rx
      have ec := hcv _ rt
      subst ec
      obtain ⟨hget, _⟩ := I.pin (a, oe) (List.mem_append.mpr (.inl List.mem_cons_self))
      obtain ⟨vs, hv⟩ := hf
      have J : ∃ od, PySem.W.InstAt s.heap a oe D od := by
        obtain ⟨oc, od, oda, osl⟩ := oe
        obtain ⟨h1, h2⟩ := hz
        dsimp only at h1 h2 hv
        subst h1 h2 hv
        cases od with
        | none => exact ⟨none, hget, rfl, rfl, trivial⟩
        | some x =>
          obtain ⟨fs, hx⟩ := hd x rfl
          obtain ⟨mA, hn, _⟩ := (show ObjOk X.prog X.w H s.heap x (.xd fs) from I.hok x _ hx)
          obtain ⟨o, ho⟩ : ∃ o, s.heap.get? x = some o := by
            obtain ⟨o, es, ep, ho, _⟩ := hn
            exact ⟨o, ho⟩
          exact ⟨some o, hget, rfl, rfl, ho⟩
      obtain ⟨od, J⟩ := J
      exact PySem.W.kia_one (PySem.W.kitx_exc (od := od) (by obtain ⟨cd, hc, _⟩ := PySem.W.any_some C.hd; rw [hc]; rfl) C.hg C.hk C.hs C.ha C.hn C.ht C.hm) I.kIn J e (fun z => nomatch z) fun tk => ⟨.bl b, H, I.kept (t' := tk) fun _ _ z => z, rfl, q⟩
/-- isinstance(e, C): the slot i holds the exception -/
def tIsE (K : PySem.W.Frag) (D a : Addr) (dd : Option Addr) (i : Nat) (cv : Value) (b : Bool) : TE := fun σ H Q => σ[i]? = some (some (.ref a)) ∧ DOk dd H ∧ PySem.W.kitOne K (.ref D) cv = some b ∧ Q (.bl b) H
section
variable {X : Cx} {a D : Addr} {dd : Option Addr} {oe : Obj} {pn : List (Addr × Obj)} {i : Nat} {ex cl : Expr} {p pos : Pos} {c : V} {cv : Value} {b : Bool}
theorem pe_isE (C : ExcC X.K D) (hz : Zc (.ref D) dd oe) (hf : ∃ vs, oe.data = .fields vs) (hi : X.mg "isinstance" = none) (he1 : PE (X.suite a ((a, oe) :: pn)) ex (tVar i)) (hc1 : PE (X.suite a ((a, oe) :: pn)) cl (tC c)) (hcv : ∀ u, RelV c u → u = cv) (hg : Gl (X.suite a ((a, oe) :: pn)) "isinstance" := by rfl)
    (he : starEach [ex, cl] X.env = (false, eval ex X.env) :: starEach [cl] X.env := by rfl) (he2 : starEach [cl] X.env = (false, eval cl X.env) :: starEach [] X.env := by rfl) (hpl : (backTo pos (starEach [cl] X.env)).any (·.1) = false := by rfl) :
    PE (X.suite a ((a, oe) :: pn)) (.Call (.Name "isinstance" p) [ex, cl] [] pos) (tIsE X.K D a dd i cv b) :=
  PE.imp (pe_callB (X := X.suite a ((a, oe) :: pn)) (pos := pos) (p := p) (call_isEd C hz hf) hg hi (by decide +kernel) (pa_cons (X := X.suite a ((a, oe) :: pn)) he1 (pa_cons (X := X.suite a ((a, oe) :: pn)) hc1 pa_nil he2) he) (he := he) (hpl := hpl)) fun σ H Q ⟨h1, h2, h3, h4⟩ => ⟨.ref a, h1, c, cv, b, rfl, h2, hcv, h3, h4⟩
end
/-- what the suite of k20's told makes: two rows of answers, put together -/
def tTl (K : PySem.W.Frag) (D : Addr) (dd : Option Addr) (l m : List (Value × Bool)) : Hp → VK → Prop := fun H Q => DOk dd H ∧ (∀ c ∈ l ++ m, PySem.W.kitOne K (.ref D) c.1 = some c.2) ∧
  ∀ p1 p2 p3, H p1 = none → upd H p1 (.lst (l.map fun c => V.bl c.2)) p2 = none → upd (upd H p1 (.lst (l.map fun c => V.bl c.2))) p2 (.lst (m.map fun c => V.bl c.2)) p3 = none →
    Q (.ref p3) (upd (upd (upd H p1 (.lst (l.map fun c => V.bl c.2))) p2 (.lst (m.map fun c => V.bl c.2))) p3 (.lst ((l ++ m).map fun c => V.bl c.2)))
theorem dok_upd {dd : Option Addr} {H : Hp} {p : Addr} {o : HO} (h : DOk dd H) (hp : H p = none) : DOk dd (upd H p o) := fun d e => by
  obtain ⟨fs, hf⟩ := h d e
  exact ⟨fs, by rw [upd_ne (ne_of_none hf hp)]; exact hf⟩
section
variable {X : Cx} {a D : Addr} {dd : Option Addr} {oe : Obj} {pn : List (Addr × Obj)} {e1 e2 e3 e4 e5 e6 : Expr} {c1 c2 c3 c4 c5 c6 : Value} {b1 b2 b3 b4 b5 b6 : Bool} {pa pb pc pd pe pf pg : Pos} {y : Str}
theorem suite20 (hN : X.N.Nodup) (hl : X.N.length = 3) (hy : X.N[2]? = some y) (hv : X.env.scope.names.lookup y = some .local) (hyd : (y == ("__debug__" : Str)) = false) (hyc : (y == ("__classdict__" : Str)) = false)
    (h1 : PE (X.suite a ((a, oe) :: pn)) e1 (tIsE X.K D a dd 1 c1 b1)) (h2 : PE (X.suite a ((a, oe) :: pn)) e2 (tIsE X.K D a dd 1 c2 b2)) (h3 : PE (X.suite a ((a, oe) :: pn)) e3 (tIsE X.K D a dd 1 c3 b3)) (h4 : PE (X.suite a ((a, oe) :: pn)) e4 (tIsE X.K D a dd 1 c4 b4))
    (h5 : PE (X.suite a ((a, oe) :: pn)) e5 (tIsE X.K D a dd 1 c5 b5)) (h6 : PE (X.suite a ((a, oe) :: pn)) e6 (tIsE X.K D a dd 1 c6 b6))
    (s1 : starEach [e1, e2, e3, e4] X.env = (false, eval e1 X.env) :: starEach [e2, e3, e4] X.env) (s2 : starEach [e2, e3, e4] X.env = (false, eval e2 X.env) :: starEach [e3, e4] X.env) (s3 : starEach [e3, e4] X.env = (false, eval e3 X.env) :: starEach [e4] X.env) (s4 : starEach [e4] X.env = (false, eval e4 X.env) :: starEach [] X.env)
    (s5 : starEach [e5, e6] X.env = (false, eval e5 X.env) :: starEach [e6] X.env) (s6 : starEach [e6] X.env = (false, eval e6 X.env) :: starEach [] X.env)
    (sw1 : swapsWith (.List [e1, e2, e3, e4] pb) (some (.Name y pa)) pc.line X.env = pure false) :
    PSs (X.suite a ((a, oe) :: pn)) [.Assign [.Name y pa] (.List [e1, e2, e3, e4] pb) pc, .Return (some (.BinOp (.Name y pd) .Add (.List [e5, e6] pe) pf)) pg]
      (fun En σ H => σ[1]? = some (some (.ref a)) ∧ σ.length = 3 ∧ tTl X.K D dd [(c1, b1), (c2, b2), (c3, b3), (c4, b4)] [(c5, b5), (c6, b6)] H En.rt) := by
  have S1 := ps_set (X := X.suite a ((a, oe) :: pn)) (i := 2) (pos := pc) (pos' := pa) hN hy (.inl hv) (pe_lst (pos := pb) (pa_cons h1 (pa_cons h2 (pa_cons h3 (pa_cons h4 pa_nil s4) s3) s2) s1)) sw1 (.inr hv)
  have S2 := ps_ret (X := X.suite a ((a, oe) :: pn)) (pos := pg) (pe_op (pos := pf) op_cat (pe_var (pos := pd) (i := 2) hy (.inl hv) hyd hyc) (pe_lst (pos := pe) (pa_cons h5 (pa_cons h6 pa_nil s6) s5)))
  refine ⟨fun pins s σ H En I ⟨g1, g2, g3, g4, g5⟩ => (pss_cons S1 (pss_one S2)).run pins s σ H En I ?_⟩
  have k := fun c hc => g4 c hc
  refine ⟨g1, g3, k (c1, b1) (by simp), g1, g3, k (c2, b2) (by simp), g1, g3, k (c3, b3) (by simp), g1, g3, k (c4, b4) (by simp), ?_⟩
  refine ⟨by rw [sizeLine_eq]; simp, fun p1 hp1 => ?_⟩
  have d1 := dok_upd (o := .lst [V.bl b1, V.bl b2, V.bl b3, V.bl b4]) g3 hp1
  have e1' : (σ.set 2 (some (.ref p1)))[1]? = some (some (.ref a)) := by rw [List.getElem?_set_ne (by decide)]; exact g1
  refine ⟨.ref p1, by rw [List.getElem?_set_self (by omega)], e1', d1, k (c5, b5) (by simp), e1', d1, k (c6, b6) (by simp), ?_⟩
  refine ⟨by rw [sizeLine_eq]; simp, fun p2 hp2 => ?_⟩
  have n12 : p1 ≠ p2 := ne_of_none (upd_same : upd H p1 (.lst [V.bl b1, V.bl b2, V.bl b3, V.bl b4]) p1 = some _) hp2
  exact ⟨p1, p2, [V.bl b1, V.bl b2, V.bl b3, V.bl b4], [V.bl b5, V.bl b6], rfl, rfl, by rw [upd_ne n12, upd_same], upd_same, by rw [sizeLine_eq]; simp, fun p3 hp3 => g5 p1 p2 p3 hp1 hp2 hp3⟩
end
/-- what a def that tells the classes of what is raised makes of a call that is refused -/
def TTq (K : PySem.W.Frag) (QF : Value) (l m : List Value) : (XK → Hp → VK → Prop) → Hp → VK → Prop := fun tl H Q => ∃ Ech : XK, tl Ech H (fun _ _ => False) ∧ ∀ cls d H', Ech cls d H' →
  ∃ (D : Addr) (bl bm : List Bool), cls = .ref D ∧ bl.length = l.length ∧ bm.length = m.length ∧ ExcC K D ∧ PySem.W.exmOne K cls QF = some true ∧ tTl K D d (l.zip bl) (m.zip bm) H' Q
structure ToldQ (P : Program) (w : World) (K : PySem.W.Frag) (mg : Str → Option Value) (base : Heap) (x : Str) (QF : Value) (l m : List Value) : Prop where
  run : ∀ X : Cx, X.prog = P → X.w = w → X.K = K → X.mg = mg → X.base = base → ∃ (a : Str) (g : Addr) (pg : Arguments) (bg : List Stmt) (sg : Scope) (dV kV doc pm cdv ct oc : Value) (an od : Option Addr) (osl : Array (Option Value)) (Ng : List Str),
    mg x = some (.ref g) ∧ PySem.W.keepIn K (.ref g) = true ∧ K.lookup g = some ⟨oc, od, .func (PySem.W.fnOf x x pg bg sg dV kV doc pm an cdv ct), osl⟩ ∧ PySem.W.codeIn K cdv x = true ∧ L2.Binds K (PySem.W.fnOf x x pg bg sg dV kV doc pm an cdv ct) [a] [] ∧ FnScope Ng [a] sg ∧ Ng[0]? = some a ∧ Vis sg a ∧
    (a == ("__debug__" : Str)) = false ∧ (a == ("__classdict__" : Str)) = false ∧ ∀ q, LamX.GivesTo X Ng x sg g cdv bg a q (TTq K QF l m)
theorem toldq_gives {X : Cx} {Ng : List Str} {x a q n xq : Str} {sg : Scope} {g : Addr} {cdg QF : Value} {c1 c2 c3 c4 c5 c6 : Value} {b₀ : Stmt} {suite rest : List Stmt} {p1 p2 p3 p4 p5 p8 : Pos} (hN : Ng.Nodup) (hl : Ng.length = 3) (h0 : ∀ f : Addr, L2.start Ng [V.ref f] = [some (V.ref f), none, none]) (h1 : Ng[1]? = some n)
    (hn : sg.names.lookup n = some .local) (hkn : ∀ (A : Around) (outer : List Env) (s : Shared) (H : Hp), (cxOf C8.CX0 X.prog X.w X.K X.mg X.base Ng x sg g cdg A outer s H C8.E0).nox.env.kindOf n = some .local)
    (hc : ∀ (A : Around) (outer : List Env) (s : Shared) (H : Hp), Names (cxOf C8.CX0 X.prog X.w X.K X.mg X.base Ng x sg g cdg A outer s H C8.E0).nox xq QF)
    (hh : ∀ (A : Around) (outer : List Env) (s : Shared) (H : Hp) (a' : Addr) (oe : Obj) (D : Addr) (d : Option Addr) (pn : List (Addr × Obj)) (b1 b2 b3 b4 b5 b6 : Bool), ExcC X.K D → Zc (.ref D) d oe → (∃ vs, oe.data = .fields vs) → PSs ((cxOf C8.CX0 X.prog X.w X.K X.mg X.base Ng x sg g cdg A outer s H C8.E0).nox.suite a' ((a', oe) :: pn)) (b₀ :: suite)
      (fun En σ H => σ[1]? = some (some (.ref a')) ∧ σ.length = 3 ∧ tTl X.K D d [(c1, b1), (c2, b2), (c3, b3), (c4, b4)] [(c5, b5), (c6, b6)] H En.rt)) :
    LamX.GivesTo X Ng x sg g cdg (.Try [.Expr (.Call (.Name a p1) [] [] p2) p3] [.ExceptHandler (some (.Name xq p4)) (some n) (b₀ :: suite) p5] [] [] p8 :: rest) a q (TTq X.K QF [c1, c2, c3, c4] [c5, c6]) := by
  intro f c' s H Q tl act hcc ⟨Ech, hE, h2⟩
  have T := ps_try_as (X := (cxOf C8.CX0 X.prog X.w X.K X.mg X.base Ng x sg g cdg X.A X.stack s H C8.E0).nox) (i := 1) (pos := p8) (np := p4) (pos' := p5) (b₀ := b₀) (suite := suite) (body := [.Expr (.Call (.Name a p1) [] [] p2) p3])
    (tb := fun W En σ H => ∃ Ech : XK, (∀ cls d σ' H', Ech cls d H' → W cls d σ' H') ∧ σ[0]? = some (some (V.ref f)) ∧ H c' = some (LamX.CodeO c' q) ∧ tl Ech H (fun _ H' => En.nx σ H')) (Wout := fun _ _ _ _ => False)
    (ts := fun a' cls d En σ H => ∃ (D : Addr) (b1 b2 b3 b4 b5 b6 : Bool), cls = .ref D ∧ ExcC X.K D ∧ (∃ σ0 : L2.St, σ = σ0.set 1 (some (.ref a'))) ∧ tTl X.K D d [(c1, b1), (c2, b2), (c3, b3), (c4, b4)] [(c5, b5), (c6, b6)] H En.rt)
    rfl rfl hN h1 (hkn _ _ _ _) (hc _ _ _ _) LamX.takes0 (fun W pn xe tk _ => ?_) (fun a' oe cls d pn hz hf => ?_)
  · refine ⟨_, pss_cons T (u := fun _ _ _ => False) ⟨fun _ _ _ _ _ _ h => h.elim⟩, Ech, fun cls d σ' H' e => ?_, by rw [h0]; rfl, hcc, hE⟩
    obtain ⟨D, bl, bm, ec, hbl, hbm, hD, he, ht⟩ := h2 cls d H' e
    match bl, bm, hbl, hbm, ht with
    | [b1, b2, b3, b4], [b5, b6], _, _, ht => exact ⟨true, he, fun _ a' _ => ⟨D, b1, b2, b3, b4, b5, b6, ec, hD, ⟨σ', rfl⟩, ht⟩, fun z => nomatch z⟩
  · refine ⟨fun pins s' σ H' En I ⟨Ech, hW, g1, g2, g3⟩ => ?_⟩
    exact (pss_one (ps_expr (pos := p3) (act W pn xe Ech p1 p2 tk hW))).run pins s' σ H' En I ⟨g1, g2, g3⟩
  · refine ⟨fun pins s σ H En I ⟨D, b1, b2, b3, b4, b5, b6, ec, hD, ⟨σ0, e0⟩, g3⟩ => ?_⟩
    subst ec
    have hlen : σ.length = 3 := I.len.trans hl
    refine (hh _ _ _ _ a' oe D d pn b1 b2 b3 b4 b5 b6 hD hz hf).run pins s σ H En I ⟨?_, hlen, g3⟩
    rw [e0] at hlen ⊢
    rw [List.length_set] at hlen
    rw [List.getElem?_set_self (by omega)]
end L2.Fl

namespace L2.Fl
open PySem PySem.Spec PyProof.Rows

/-! ### lambdas that stand: their function objects pinned -/
abbrev Cx.pnd (X : Cx) (pn : List (Addr × Obj)) : Cx := { X with pn := pn ++ X.pn }
theorem pin_stack {X : Cx} {pins : List (Addr × Obj)} {σ : L2.St} {H : Hp} {s : Shared} {f : Addr} (I : Inv X pins σ H s) (h1 : f ≠ X.env.locals) (h2 : f ∉ X.fs) : f ∉ frs X.stack := by
  rcases I.ok.stk with e | ⟨e, hf⟩
  · rw [e]; exact h2
  · rw [e]
    unfold frs
    rw [List.filterMap_cons, hf]
    intro z
    rcases List.mem_cons.mp z with z | z
    · exact h1 z
    · exact h2 z
/-- a lambda's object -/
abbrev lamO (X : Cx) (params : Arguments) (body : Expr) (scope : Scope) (pm : Value) (c' : Addr) (ctv : Value) : Obj := PySem.W.kla_obj "<lambda>" (X.env.qual ++ "<lambda>") params body scope (cloFrom X.env.cells scope.names []) pm c' ctv
section
variable {X : Cx} {ι : Type}
theorem pe_toldP {QF : Value} {l m : List Value} {x : Str} {k : Nat} {params : Arguments} {f c : ι → Addr} {body : ι → Expr} {scope : ι → Scope} {pm ctv : ι → Value} {t : ι → XK → TE} {ta : TE} {e : Expr} {p pos : Pos} (T : ToldQ X.prog X.w X.K X.mg X.base x QF l m) (hg : Gl X x)
    (hp : ∀ i, (f i, lamO X params (body i) (scope i) (pm i) (c i) (ctv i)) ∈ X.pn) (hr : Room (k + 2) X.A) (S : ∀ i, LamX.LamS X.env.scope (scope i))
    (hbind : ∀ (i : ι) (q : Str) (cl : List (Str × Addr)) (pm cv ctv : Value), bindArgs (PySem.W.kla_fn "<lambda>" q params (body i) (scope i) cl pm cv ctv) ⟨[], []⟩ = pure [])
    (hbody : ∀ (i : ι) (A : Around) (outer : List Env) (s : Shared) (H : Hp) (E : XK), Room k (A.deeper (LamX.lamEnv X (scope i) s.heap.objs.size (f i) (c i))) → PE (LamX.lamCx X A outer s H E (scope i) (f i) (c i)) (body i) (t i E))
    (he : PE X e ta) (hst : starEach [e] X.env = (false, eval e X.env) :: starEach [] X.env := by rfl) (hpl : (backTo pos (starEach [] X.env)).any (·.1) = false := by rfl) (hdb : (x == ("__debug__" : Str)) = false := by decide) :
    PE X (.Call (.Name x p) [e] [] pos) (fun σ H Q => tCons ta tNil σ H fun vs H1 => ∃ i, vs = [V.ref (f i)] ∧ H1 (c i) = some (LamX.CodeO (c i) (X.env.qual ++ "<lambda>")) ∧ TTq X.K QF l m (fun E H' Q' => t i E σ H' Q') H1 Q) := by
  refine ⟨fun pins s σ H Q I h => ?_⟩
  obtain ⟨a, g, pg, bg, sg, dV, kV, doc, pm', cdv, ct, oc, an, od, osl, Ng, hm, hk, lk, hcg, hb, Sg, hNg, hva, hd, hcd, hG⟩ := T.run X rfl rfl rfl rfl rfl
  refine wpAny_Call_Name_kw (ld_glob I hg hm ?_ hdb)
  refine PySem.W.callWith_K (h₀ := X.base) I.ok.mod.kin hk (thn ((pa_cons he pa_nil hst).run pos pins s σ H (fun vs H1 => ∃ i, vs = [V.ref (f i)] ∧ H1 (c i) = some (LamX.CodeO (c i) (X.env.qual ++ "<lambda>")) ∧ TTq X.K QF l m (fun E H' Q' => t i E σ H' Q') H1 Q) I ?_) fun us s1 ⟨vs, H1, I1, r, i, ev, hco, hT⟩ => ⟨I1.kIn, ?_⟩) hst hpl
  · exact h
  subst ev
  obtain ⟨u, rfl, rv⟩ : ∃ u, us = [u] ∧ RelV (V.ref (f i)) u := by
    cases r with
    | cons h t => cases t; exact ⟨_, rfl, h⟩
  obtain rfl : u = Value.ref (f i) := rv
  obtain ⟨hf, hfn, hf1, hf2, _⟩ := I1.pin _ (List.mem_append_left _ (hp i))
  have hfr := pin_stack I1 hf1 hf2
  have rc : codeAny (model X.prog X.w) X.A (.call (.ref g) ⟨[.ref (f i)], []⟩) (CR C8.CX0 X.stack X.prog X.w H1 s1 Q C8.E0) s1 := by
    refine LamX.run_ofS (ps := [a]) (us := [.ref (f i)]) (vs := [.ref (f i)]) lk hcg Sg hr I1.env0 (hb s1 [.ref (f i)] I1.kIn rfl) (.cons rfl .nil) rfl fun hr' => ?_
    obtain ⟨t', ht', hq'⟩ := hG _ (f i) (c i) s1 H1 Q (fun E H' Q' => t i E σ H' Q') (fun W pn xe E p1 p2 tk hW => LamX.pe_act (i := 0) I1 (S i) hf hfn hfr (hbind i _ _ _ _ _) tk hW hr' (fun A outer s H hr2 => hbody i A outer s H E hr2) hNg hva hd hcd) hco hT
    exact ⟨t', ht'.nox, hq'⟩
  refine wpAny_call (codeAny_mono rc fun r s2 hq => ?_)
  cases r with
  | error e => exact (show False from hq).elim
  | ok fl =>
    cases fl with
    | ret u => exact I1.after hq
    | next => exact False.elim hq
    | brk => exact False.elim hq
    | cont => exact False.elim hq
/-- from a context with pins to the one without, and back -/
theorem Inv.pnd {pn pins : List (Addr × Obj)} {σ : L2.St} {H : Hp} {s : Shared} (I : Inv X (pn ++ pins) σ H s) : Inv (Cx.pnd X pn) pins σ H s :=
  ⟨⟨I.ok.mod, I.ok.kind, I.ok.glob, I.ok.blt, I.ok.above, I.ok.inj, I.ok.has, I.ok.cab, I.ok.hd, I.ok.frames, I.ok.stk, I.ok.exf, I.ok.bs, I.ok.bsz, I.ok.noex, I.ok.exfs, I.ok.funs, I.ok.frf⟩, I.os, I.bare, I.base, I.loc, I.cell, I.free, I.freeC, fun p hp => I.pin p (by
    simp only [List.mem_append] at hp ⊢
    rcases hp with (h | h) | h
    · exact .inr (.inl h)
    · exact .inl h
    · exact .inr (.inr h)), I.hok, I.len⟩
theorem Inv.unpnd {pn pins : List (Addr × Obj)} {σ : L2.St} {H : Hp} {s : Shared} (I : Inv (Cx.pnd X pn) pins σ H s) : Inv X pins σ H s :=
  ⟨⟨I.ok.mod, I.ok.kind, I.ok.glob, I.ok.blt, I.ok.above, I.ok.inj, I.ok.has, I.ok.cab, I.ok.hd, I.ok.frames, I.ok.stk, I.ok.exf, I.ok.bs, I.ok.bsz, I.ok.noex, I.ok.exfs, I.ok.funs, I.ok.frf⟩, I.os, I.bare, I.base, I.loc, I.cell, I.free, I.freeC, fun p hp => I.pin p (by
    simp only [List.mem_append] at hp ⊢
    rcases hp with h | h
    · exact .inl (.inr h)
    · exact .inr h), I.hok, I.len⟩
end
end L2.Fl

namespace L2.Fl
open PySem PySem.Spec PyProof.Rows

/-! ### a list of lambdas -/
structure LamI where
  params : Arguments
  body : Expr
  scope : Scope
  pos : Pos
abbrev LamI.e (l : LamI) : Expr := .Lambda l.params l.body l.scope l.pos
/-- where such a lambda's object came to stand: the object, its code, two values that do not matter -/
structure LamF where
  f : Addr
  c : Addr
  pm : Value
  ctv : Value
abbrev lamP (X : Cx) (l : LamI) (z : LamF) : Addr × Obj := (z.f, lamO X l.params l.body l.scope z.pm z.c z.ctv)
section
variable {X : Cx}
theorem lam_pin {pins : List (Addr × Obj)} {σ : L2.St} {H : Hp} {s : Shared} {l : LamI} {z : LamF} (I : Inv X pins σ H s) (hf : s.heap.get? z.f = some (lamP X l z).2) (hfn : H z.f = none) (hfr : z.f ∉ frs X.stack) : Inv X (pins ++ [lamP X l z]) σ H s := I.pins_of fun p hp => by
  rcases List.mem_append.mp hp with h | h
  · exact I.pin p (List.mem_append_right _ h)
  · rw [List.mem_singleton] at h
    subst h
    refine ⟨hf, hfn, fun e => ?_, fun h => hfr ?_, fun v h => by cases h⟩
    · obtain ⟨m, ⟨o, es, ep, ho, hd, _⟩, _⟩ := I.loc
      have e : z.f = X.env.locals := e
      rw [← e, hf] at ho
      cases ho
      cases hd
    · rcases I.ok.stk with e | ⟨e, hf⟩
      · rw [e]; exact h
      · rw [e]
        unfold frs
        rw [List.filterMap_cons, hf]
        exact List.mem_cons_of_mem _ h
theorem lams_run {c P : Addr} {L : Nat → Nat → Option Str} {pos : Pos} (TB : LamX.TabB X.base X.mg c P) (hcode : X.env.code = .ref c) : ∀ (ls : List LamI) (pins : List (Addr × Obj)) (s : Shared) (σ : L2.St) (H : Hp) (Q : List Value → Shared → Prop), (∀ l ∈ ls, L l.pos.line l.pos.col = some (X.env.qual ++ "<lambda>") ∧ defaultsOf l.params X.env = ([], []) ∧ (∀ y ∈ l.scope.names, y.2 = .free → ∃ c, X.env.cells.lookup y.1 = some c)) → Inv X pins σ H s → TabP H (P, L) →
    (∀ (fs : List LamF) (H1 : Hp) (s' : Shared), fs.length = ls.length → Inv X (pins ++ (ls.zip fs).map fun z => lamP X z.1 z.2) σ H1 s' → (∀ b o, b ≠ P → H b = some o → H1 b = some o) → (∀ b, H1 b = none → H b = none) → TabP H1 (P, L) → (∀ z ∈ fs, H1 z.c = some (LamX.CodeO z.c (X.env.qual ++ "<lambda>"))) → Q (fs.map fun z => .ref z.f) s') →
    wpAny (model X.prog X.w) X.A (spliced (backTo pos (starEach (ls.map LamI.e) X.env))) Q X.xe s
  | [], pins, s, σ, H, Q, _, I, T, h => Calls.spliced_nil (h [] H s rfl (by rw [List.zip_nil_left, List.map_nil, List.append_nil]; exact I) (fun _ _ _ e => e) (fun _ e => e) T (fun _ z => nomatch z))
  | l :: ls, pins, s, σ, H, Q, hl, I, T, h => by
    obtain ⟨hL, hd, hfree⟩ := hl l List.mem_cons_self
    rw [List.map_cons, show starEach (l.e :: ls.map LamI.e) X.env = (false, eval l.e X.env) :: starEach (ls.map LamI.e) X.env from rfl]
    show wpAny _ _ (spliced ((false, eval l.e X.env) :: backTo pos (starEach (ls.map LamI.e) X.env))) _ _ s
    refine Calls.spliced_cons (lam_mk I TB hcode T hL hd hfree fun f c' pm ctv H1 s' I1 eN dN T1 hf hfn hfr hco => ?_)
    have I2 := lam_pin (l := l) (z := ⟨f, c', pm, ctv⟩) I1 hf hfn hfr
    refine lams_run TB hcode ls _ s' σ H1 _ (fun l' h' => hl l' (List.mem_cons_of_mem _ h')) I2 T1 fun fs H2 s2 hlen I3 eN2 dN2 T2 hc2 => ?_
    have nP : ∀ b o, H1 b = some o → (∀ ps, o ≠ .tbl ps) → b ≠ P := fun b o e n z => by
      obtain ⟨ps, hP, _⟩ := T1
      rw [z] at e
      rw [hP] at e
      cases e
      exact n ps rfl
    refine h (⟨f, c', pm, ctv⟩ :: fs) H2 s2 (by simp [hlen]) ?_ (fun b o nb e => eN2 b o nb (eN b o nb e)) (fun b e => dN b (dN2 b e)) T2 fun z hz => ?_
    · rw [List.zip_cons_cons, List.map_cons]
      rw [List.append_assoc] at I3
      exact I3
    · rcases List.mem_cons.mp hz with rfl | hz
      · exact eN2 c' _ (nP c' _ hco fun ps z => by cases z) hco
      · exact hc2 z hz
theorem vals_refs : ∀ fs : List LamF, Vals (fs.map fun z => V.ref z.f) (fs.map fun z => Value.ref z.f)
  | [] => .nil
  | _ :: fs => .cons rfl (vals_refs fs)
theorem sp_unpnd {pn pins : List (Addr × Obj)} {D : Ends} {f : Flow} {s : Shared} (h : SP (Cx.pnd X pn) pins D f s) : SP X pins D f s := by
  cases f with
  | next => obtain ⟨σ', H', I', q⟩ := h; exact ⟨σ', H', Inv.unpnd I', q⟩
  | brk => obtain ⟨σ', H', I', q⟩ := h; exact ⟨σ', H', Inv.unpnd I', q⟩
  | cont => obtain ⟨σ', H', I', q⟩ := h; exact ⟨σ', H', Inv.unpnd I', q⟩
  | ret v => obtain ⟨x, σ', H', I', q⟩ := h; exact ⟨x, σ', H', Inv.unpnd I', q⟩
/-- y = [lambda: .., ..], then the rest, which knows where they stand -/
def tLams (X : Cx) (P : Addr) (L : Nat → Nat → Option Str) (n i : Nat) (t : List LamF → TS) : TS := fun D σ H => TabP H (P, L) ∧ ∀ (fs : List LamF) (H1 : Hp), fs.length = n → (∀ b o, b ≠ P → H b = some o → H1 b = some o) → (∀ b, H1 b = none → H b = none) → TabP H1 (P, L) → (∀ z ∈ fs, H1 z.c = some (LamX.CodeO z.c (X.env.qual ++ "<lambda>"))) →
  ∀ p, H1 p = none → t fs D (σ.set i (some (.ref p))) (upd H1 p (.lst (fs.map fun z => V.ref z.f)))
theorem pss_lams {c P : Addr} {L : Nat → Nat → Option Str} {ls : List LamI} {y : Str} {py lp pos : Pos} {i : Nat} {rest : List Stmt} {t : List LamF → TS} (TB : LamX.TabB X.base X.mg c P) (hcode : X.env.code = .ref c) (hl : ∀ l ∈ ls, L l.pos.line l.pos.col = some (X.env.qual ++ "<lambda>") ∧ defaultsOf l.params X.env = ([], []) ∧ (∀ y ∈ l.scope.names, y.2 = .free → X.env.scope.names.lookup y.1 = some .cell ∨ X.env.scope.names.lookup y.1 = some .free))
    (hn : ls.length ≤ 100) (hN : X.N.Nodup) (hi : X.N[i]? = some y) (hx : Loc X.env.scope y) (hs : swapsWith (.List (ls.map LamI.e) lp) (some (.Name y py)) pos.line X.env = pure false) (hfn : X.fn y = true ∨ X.env.scope.names.lookup y = some .local)
    (hr : ∀ fs : List LamF, fs.length = ls.length → PSs (Cx.pnd X ((ls.zip fs).map fun z => lamP X z.1 z.2)) rest (t fs)) :
    PSs X (.Assign [.Name y py] (.List (ls.map LamI.e) lp) pos :: rest) (tLams X P L ls.length i t) := by
  refine ⟨fun pins s σ H D I ⟨T, h⟩ => ?_⟩
  have key : wpAny (model X.prog X.w) X.A (exec (.Assign [.Name y py] (.List (ls.map LamI.e) lp) pos) X.env) (fun f s1 => f = .next ∧ ∃ fs : List LamF, fs.length = ls.length ∧ ∃ σ1 H1, Inv X (pins ++ (ls.zip fs).map fun z => lamP X z.1 z.2) σ1 H1 s1 ∧ t fs D σ1 H1) X.xe s := by
    refine wpAny_Assign_Name (wpAny_List_spliced (lams_run TB hcode ls pins s σ H _ (fun l h' => ⟨(hl l h').1, (hl l h').2.1, fun y hy e => I.ok.has _ ((hl l h').2.2 y hy e)⟩) I T fun fs H1 s1 hlen I1 eN dN T1 hc => ⟨by rw [List.length_map, hlen, sizeLine_eq]; omega, ?_⟩)) hs
    have hf : H1 s1.heap.objs.size = none := I1.hok.fresh (Nat.le_refl _)
    have I2 : Inv X (pins ++ (ls.zip fs).map fun z => lamP X z.1 z.2) σ (upd H1 s1.heap.objs.size (.lst (fs.map fun z => V.ref z.f))) { s1 with heap := s1.heap.push { cls := .type "list", data := .seq (fs.map fun z => Value.ref z.f).toArray } } := by
      refine I1.laid (t' := s1.toks) (fun b u e => Heap.get?_push_of_some _ e) (Nat.le_refl _) ⟨by rw [List.length_map, hlen, sizeLine_eq]; omega, fs.map (fun z => Value.ref z.f), 0, ?_, Heap.get?_push_size _ rfl⟩
      exact vals_refs fs
    exact store_ok I2 hN hi hx (v := V.ref s1.heap.objs.size) rfl (fun s' I' => ⟨rfl, fs, hlen, _, _, I', h fs H1 hlen eN dN T1 hc _ hf⟩) hfn
  refine wpAny_execs_cons (thn key fun f s1 ⟨ef, fs, hlen, σ1, H1, I1, ht⟩ => ?_)
  subst ef
  have I2 : Inv (Cx.pnd X ((ls.zip fs).map fun z => lamP X z.1 z.2)) pins σ1 H1 s1 := Inv.pnd (I1.pins_of fun p hp => I1.pin p (by
    simp only [List.mem_append] at hp ⊢
    rcases hp with h | h
    · exact .inr (.inr h)
    · exact .inr (.inl h)))
  exact thn ((hr fs hlen).run pins s1 σ1 H1 D I2 ht) fun f s2 q => sp_unpnd q
end
end L2.Fl

namespace L2.Fl
open PySem PySem.Spec PyProof.Rows

/-! ### a yard is made: fields stored one by one -/
structure YS (H0 : Hp) (x C dx : Addr) (H : Hp) (fs : List (Str × V)) : Prop where
  keep : ∀ p o, H0 p = some o → p ≠ x → H p = some o
  dom : ∀ p, H p = none → H0 p = none
  at_ : H x = some (.ins C dx fs)
theorem YS.put {H0 H : Hp} {x C dx : Addr} {fs : List (Str × V)} (y : YS H0 x C dx H fs) (f : Str) (v : V) : YS H0 x C dx (upd H x (.ins C dx (putF f v fs))) (putF f v fs) :=
  ⟨fun p o h n => by rw [upd_ne n]; exact y.keep p o h n, fun p h => by
    by_cases e : p = x
    · rw [e, upd_same] at h; cases h
    · rw [upd_ne e] at h; exact y.dom p h, upd_same⟩
theorem YS.new {H0 H : Hp} {x C dx : Addr} {fs : List (Str × V)} (y : YS H0 x C dx H fs) {p : Addr} {o : HO} (hp : H p = none) : YS H0 x C dx (upd H p o) fs :=
  ⟨fun q u h n => by rw [upd_ne (ne_of_none (y.keep q u h n) hp)]; exact y.keep q u h n, fun q h => by
    by_cases e : q = p
    · rw [e, upd_same] at h; cases h
    · rw [upd_ne e] at h; exact y.dom q h, by rw [upd_ne (ne_of_none y.at_ hp)]; exact y.at_⟩
theorem lk_put (f g : Str) (v : V) (fs : List (Str × V)) : (putF f v fs).lookup g = if g = f then some v else fs.lookup g := lookup_putF f g v fs
theorem putF_le (f : Str) (v : V) : ∀ {fs : List (Str × V)} {n : Nat}, fs.length ≤ n → (putF f v fs).length ≤ n + 1
  | [], _, _ => by simp [putF]
  | (g, x) :: r, n + 1, h => by
    unfold putF
    split
    · simp at h ⊢; omega
    · have := putF_le f v (fs := r) (n := n) (by simpa using h)
      simp; omega
  | _ :: _, 0, h => by simp at h
section
variable {X : Cx} {C : Addr} {v1 v2 v3 v4 v5 v6 v7 v8 v9 o : Expr} {tz : V} {s1 s2 s3 s4 s5 s6 s7 s8 s9 : Stmt}
/-- nine fields -/
theorem yard_run (c : Cls X.K C) (n1 : NoAttr X.K C "bed") (n2 : NoAttr X.K C "room") (n3 : NoAttr X.K C "dug") (n4 : NoAttr X.K C "floor") (n5 : NoAttr X.K C "stock") (n6 : NoAttr X.K C "wants") (n7 : NoAttr X.K C "money") (n8 : NoAttr X.K C "deeds") (n9 : NoAttr X.K C "undone")
    (h1 : PS X s1 (sFld X.K (tVar 0) (tVar 1) "bed")) (h2 : PS X s2 (sFld X.K (tVar 0) (tVar 2) "room")) (h3 : PS X s3 (sFld X.K (tVar 0) (tTup tNil) "dug")) (h4 : PS X s4 (sFld X.K (tVar 0) tDNewK "floor")) (h5 : PS X s5 (sFld X.K (tVar 0) tDNewK "stock")) (h6 : PS X s6 (sFld X.K (tVar 0) tDNewK "wants")) (h7 : PS X s7 (sFld X.K (tVar 0) (tC tz) "money")) (h8 : PS X s8 (sFld X.K (tVar 0) (tLst tNil) "deeds")) (h9 : PS X s9 (sFld X.K (tVar 0) (tLst tNil) "undone")) :
    PSs X [s1, s2, s3, s4, s5, s6, s7, s8, s9] (fun D σ H => ∃ x dx w1 w2, σ[0]? = some (some (V.ref x)) ∧ σ[1]? = some (some w1) ∧ σ[2]? = some (some w2) ∧ H x = some (.ins C dx []) ∧
      ∀ H' fs w, YS H x C dx H' fs → fs.lookup ("wants" : Str) = some (V.ref w) → H' w = some (.dK []) → fs.lookup ("sell" : Str) = none → D.nx σ H') := by
  refine ⟨fun pins s σ H D I ⟨x, dx, w1, w2, g0, g1, g2, g3, q⟩ => (pss_cons h1 (pss_cons h2 (pss_cons h3 (pss_cons h4 (pss_cons h5 (pss_cons h6 (pss_cons h7 (pss_cons h8 (pss_one h9))))))))).run pins s σ H D I ?_⟩
  have y0 : YS H x C dx H [] := ⟨fun _ _ h _ => h, fun _ h => h, g3⟩
  have sz : ([] : List V).length ≤ sizeLine := Nat.zero_le _
  have y1 := y0.put "bed" w1
  have L1 := putF_le "bed" w1 (fs := []) (Nat.le_refl 0)
  refine ⟨w1, g1, .ref x, g0, x, C, dx, _, rfl, y0.at_, c, n1, by simp, ?_⟩
  have y2 := y1.put "room" w2
  refine ⟨w2, g2, .ref x, g0, x, C, dx, _, rfl, y1.at_, c, n2, by omega, ?_⟩
  have L2 := putF_le "room" w2 L1
  refine ⟨sz, fun p3 e3 => ?_⟩
  have y3 := y2.new (o := .tup []) e3
  refine ⟨.ref x, g0, x, C, dx, _, rfl, y3.at_, c, n3, by omega, fun p4 e4 => ?_⟩
  have L3 := putF_le "dug" (.ref p3) L2
  have y4 := (y3.put "dug" (.ref p3)).new (o := .dK []) e4
  refine ⟨.ref x, g0, x, C, dx, _, rfl, y4.at_, c, n4, by omega, fun p5 e5 => ?_⟩
  have L4 := putF_le "floor" (.ref p4) L3
  have y5 := (y4.put "floor" (.ref p4)).new (o := .dK []) e5
  refine ⟨.ref x, g0, x, C, dx, _, rfl, y5.at_, c, n5, by omega, fun p6 e6 => ?_⟩
  have L5 := putF_le "stock" (.ref p5) L4
  have y6 := (y5.put "stock" (.ref p5)).new (o := .dK []) e6
  have n6x : p6 ≠ x := fun e => by
    have := (y5.put "stock" (.ref p5)).at_
    rw [e] at e6
    rw [e6] at this; cases this
  refine ⟨.ref x, g0, x, C, dx, _, rfl, y6.at_, c, n6, by omega, ?_⟩
  have L6 := putF_le "wants" (.ref p6) L5
  have y7 := y6.put "wants" (.ref p6)
  refine ⟨.ref x, g0, x, C, dx, _, rfl, y7.at_, c, n7, by omega, sz, fun p8 e8 => ?_⟩
  have L7 := putF_le "money" tz L6
  have y8 := (y7.put "money" tz).new (o := .lst []) e8
  refine ⟨.ref x, g0, x, C, dx, _, rfl, y8.at_, c, n8, by omega, sz, fun p9 e9 => ?_⟩
  have L8 := putF_le "deeds" (.ref p8) L7
  have y9 := (y8.put "deeds" (.ref p8)).new (o := .lst []) e9
  refine ⟨.ref x, g0, x, C, dx, _, rfl, y9.at_, c, n9, by omega, q _ _ p6 (y9.put "undone" (.ref p9)) rfl ?_ rfl⟩
  have n68 : p6 ≠ p8 := fun e => by
    subst e
    rw [upd_ne n6x, upd_ne n6x, upd_same] at e8; cases e8
  have n69 : p6 ≠ p9 := fun e => by
    subst e
    rw [upd_ne n6x, upd_ne n68, upd_ne n6x, upd_ne n6x, upd_same] at e9; cases e9
  rw [upd_ne n6x, upd_ne n69, upd_ne n6x, upd_ne n68, upd_ne n6x, upd_ne n6x, upd_same]
end
/-! ### sell, where nothing was ordered -/
def spSell (C BD : Addr) : Sp := fun vs H Q E => ∃ (x dx : Addr) (fs : List (Str × V)) (w : Addr) (i : Int), vs = [V.ref x, .int i] ∧ H x = some (.ins C dx fs) ∧ fs.lookup ("wants" : Str) = some (V.ref w) ∧ H w = some (.dK []) ∧ E (.ref BD) none H
theorem sell_ok {P : Program} {w : World} {K : PySem.W.Frag} {mg : Str → Option Value} {base : Heap} {x qual m : Str} {st : Stmt} {f C BD : Addr} {fd : FuncData} {cv : Value} {N : List Str} {k j : Nat} {rest els : List Stmt} {a1 a2 a3 a4 r1 r2 r3 r4 p : Pos}
    (F : FunC K x qual st f fd cv) (S : FnScope N ["self", "number"] (defScope st)) (hb : defBody st = .If (.Compare (.Name "number" a1) [.NotIn] [.Attribute (.Name "self" a2) "wants" a3] a4) [.Raise (some (.Call (.Name "BadDeed" r1) [.Constant (.str m) j r2] [] r3)) none r4] [] p :: rest)
    (h0 : N[0]? = some ("self" : Str)) (h1 : N[1]? = some ("number" : Str)) (v0 : Vis (defScope st) "self") (v1 : Vis (defScope st) "number") (hs : ∀ y z, L2.start N [y, z] = some y :: some z :: List.replicate (N.length - 2) none) (c : Cls K C) (n : NoAttr K C "wants") (o : OwnX K mg "BadDeed" BD)
    (hgl : ∀ (A : Around) (outer : List Env) (sh : Shared) (H : Hp) (E : XK), Gl (cxOf (L2.CX P w) P w K mg base N qual (defScope st) f cv A outer sh H E) "BadDeed") : FnOk P w K mg base (L2.CX P w) (k + 1) f fd ["self", "number"] (spSell C BD) := by
  refine F.okX S (fun vs H Q E ⟨_, _, _, _, _, e, _⟩ => by rw [e]; rfl) (fun A outer sh H vs Q E hr ⟨x, dx, fs, w', i, e, hx, hw, hd, hE⟩ => ?_)
  subst e
  rw [hb]
  refine ⟨_, pss_cons (ps_if (pt_cmp (pc_dnotin (room1 hr) (pe_var h1 v1) (pe_fld (pe_var h0 v0) rfl)) rfl) (pss_one (ps_raise rfl takesF (pmk_own PySem.F.excBase_ValueError o.q o.g o.k (raises_own o.b o.t) (hgl _ _ _ _ _) (by decide)))) pss_nil) (u := fun _ _ _ => False) ⟨fun _ _ _ _ _ _ h => h.elim⟩, ?_⟩
  rw [hs]
  exact ⟨.int i, rfl, .ref x, rfl, x, C, dx, fs, .ref w', rfl, hx, c, n, hw, w', none, rfl, DGet.k (k := .inl i) hd, true, rfl, hE⟩
/-! ### Yard.__init__ -/
def spYard (G : G0) (fmC : FM) (C : Addr) : Sp := fun vs H Q E => ∃ (pd : Option Addr) (Z : Addr → Prop) (x dx : Addr) (vb vr : V) (db : D) (ω ω' : W3), vs = [V.ref x, vb, vr] ∧ Good (G.at pd) Z H ω ∧ RD (G.tk pd) Z H db vb ∧ H x = some (.ins C dx []) ∧ fmC [db] ω = .ok .non ω' ∧
  ∀ (H1 : Hp) (Z' : Addr → Prop) (H' : Hp) (fs : List (Str × V)) (w : Addr), Ext (G.at pd) H H1 → (∀ p, Z p → Z' p) → (∀ p, Z' p → Z p ∨ H p = none) → Good (G.at pd) Z' H1 ω' → YS H1 x C dx H' fs → fs.lookup ("wants" : Str) = some (V.ref w) → H' w = some (.dK []) → fs.lookup ("sell" : Str) = none → Q .non H'
theorem init_ok {P : Program} {w : World} {K : PySem.W.Frag} {mg : Str → Option Value} {base : Heap} {G : G0} {x qual xc : Str} {st : Stmt} {f C : Addr} {fd : FuncData} {cv : Value} {N : List Str} {k j : Nat} {fmC : FM} {b1 : Stmt} {rest : List Stmt} {u : TS}
    (F : FunC K x qual st f fd cv) (S : FnScope N ["self", "bed", "room"] (defScope st)) (hN : N.length = 3) (hb : defBody st = b1 :: rest)
    (h1 : ∀ (A : Around) (outer : List Env) (sh : Shared) (H : Hp) (B : Bc), BOf G B → Room k (A.deeper (envOfC qual (defScope st) sh.heap.objs.size f cv)) → PS (cxOf (L2.CX P w) P w K mg base N qual (defScope st) f cv A outer sh H B.E) b1 (tDrop (RdE B (callM fmC 1 (consM (vr 1) nilM)))))
    (h2 : ∀ (A : Around) (outer : List Env) (sh : Shared) (H : Hp) (E : XK), PSs (cxOf (L2.CX P w) P w K mg base N qual (defScope st) f cv A outer sh H E) rest (fun D σ H => ∃ x dx w1 w2, σ[0]? = some (some (V.ref x)) ∧ σ[1]? = some (some w1) ∧ σ[2]? = some (some w2) ∧ H x = some (.ins C dx []) ∧
      ∀ H' fs w, YS H x C dx H' fs → fs.lookup ("wants" : Str) = some (V.ref w) → H' w = some (.dK []) → fs.lookup ("sell" : Str) = none → D.nx σ H')) : FnOk P w K mg base (L2.CX P w) (k + 1) f fd ["self", "bed", "room"] (spYard G fmC C) := by
  refine F.okX S (fun vs H Q E ⟨_, _, _, _, _, _, _, _, _, e, _⟩ => by rw [e]; rfl) (fun A outer sh H vs Q E hr ⟨pd, Z, x, dx, vb, vr', db, ω, ω', e, good, rd, hx, hf, q⟩ => ?_)
  subst e
  rw [hb]
  let B : Bc := { g := G.at pd, H0 := H, Z0 := Z, cls := G.cls, Ex := fun _ _ => False, E := E, Rz := fun _ => False, hE := fun _ _ _ _ _ z => z.elim }
  have es : L2.start N [V.ref x, vb, vr'] = [some (V.ref x), some vb, some vr'] := by
    unfold L2.start
    rw [hN]; rfl
  refine ⟨_, pss_cons (h1 A outer sh H B ⟨⟨pd, rfl⟩, rfl⟩ hr) (h2 A outer sh H E), ?_⟩
  rw [es]
  have noO : ∀ (i : Nat) (d : D), ([Slot.no, .val db, .no] : Fr)[i]? ≠ some (.own d) := fun i d e => by
    match i, e with
    | 0, e => cases e
    | 1, e => cases e
    | 2, e => cases e
    | i + 3, e => cases e
  have hv : ∀ (i : Nat) (d : D), ([Slot.no, .val db, .no] : Fr)[i]? = some (.val d) → ∃ v, ([some (V.ref x), some vb, some vr'] : L2.St)[i]? = some (some v) ∧ RD B.g.tk Z H d v := fun i d e => by
    match i, e with
    | 1, e => cases e; exact ⟨vb, rfl, rd⟩
    | 0, e => cases e
    | 2, e => cases e
    | i + 3, e => cases e
  have j0 : J B Z [.no, .val db, .no] [some (V.ref x), some vb, some vr'] H ω := ⟨good, .refl, fun _ z => z, fun _ z => .inl z, rfl, hv, fun i d e => absurd e (noO i d), fun _ z => z.elim, fun i l d e p h => absurd h (noO i d)⟩
  refine ⟨Z, [.no, .val db, .no], ω, j0, ?_⟩
  have hc : callM fmC 1 (consM (vr 1) nilM) [.no, .val db, .no] ω = .ok .non [.no, .val db, .no] ω' := cC (cA rfl rfl) hf rfl
  rw [hc]
  intro Z' v H1 ex sub j1 _
  have np : (G.at pd).pd ≠ some x := fun z => by
    have := good.dice x z
    rw [hx] at this; cases this
  exact ⟨x, dx, vb, vr', rfl, rfl, rfl, ex.keep x _ hx np (fun ps z => by cases z), fun H' fs w y l1 l2 l3 => q H1 Z' H' fs w ex sub (fun p z => j1.zn p z) j1.good y l1 l2 l3⟩
end L2.Fl

namespace L2.Fl
open PySem PySem.Spec PyProof.Rows

/-- a def that tells the classes of what is raised -/
theorem toldqFn {P : Program} {w : World} {K : PySem.W.Frag} {mg : Str → Option Value} {base : Heap} {x a : Str} {st : Stmt} {f : Addr} {fd : FuncData} {cv QF : Value} {l m : List Value} {N : List Str}
    (F : FunC K x x st f fd cv) (S : FnScope N [a] (defScope st)) (hm : mg x = some (.ref f)) (hb : Binds K fd [a] []) (hN : N[0]? = some a) (hv : Vis (defScope st) a) (hd : (a == ("__debug__" : Str)) = false) (hcd : (a == ("__classdict__" : Str)) = false)
    (hg : ∀ (X : Cx) (q : Str), X.prog = P → X.w = w → X.K = K → X.mg = mg → X.base = base → LamX.GivesTo X N x (defScope st) f cv (defBody st) a q (TTq K QF l m)) : ToldQ P w K mg base x QF l m := by
  obtain ⟨oc, od, kV, doc, pm, an, ct, osl, rfl, lk, hc⟩ := F.ex
  exact ⟨fun X e1 e2 e3 e4 e5 => ⟨a, f, defArgs st, defBody st, defScope st, .none, kV, doc, pm, cv, ct, oc, an, od, osl, N, hm, F.kp, lk, hc, hb, S, hN, hv, hd, hcd, fun q => hg X q e1 e2 e3 e4 e5⟩⟩
/-! ### more tokens -/
section
variable {tk tk' : Nat → Option V} {Z : Addr → Prop} {H : Hp}
mutual
theorem RD.tkm (h : ∀ n v, tk n = some v → tk' n = some v) : ∀ {d : D} {v : V}, RD tk Z H d v → RD tk' Z H d v
  | _, _, .non => .non
  | _, _, .bl b => .bl b
  | _, _, .int b => .int b
  | _, _, .str b => .str b
  | _, _, .tok b => .tok (h _ _ b)
  | _, _, .tup e r => .tup e (RDs.tkm h r)
  | _, _, .ptup z e n r => .ptup z e n (RDs.tkm h r)
  | _, _, .dctF z e r => .dctF z e (RK.tkm h r)
  | _, _, .dctG z e r => .dctG z e (RT.tkm h r)
  | _, _, .obj z r => .obj z (RO.tkm h r)
theorem RO.tkm (h : ∀ n v, tk n = some v → tk' n = some v) : ∀ {d : D} {p : Addr}, RO tk Z H d p → RO tk' Z H d p
  | _, _, .lst e r => .lst e (RDs.tkm h r)
  | _, _, .dK e r => .dK e (RK.tkm h r)
  | _, _, .dT e r => .dT e (RT.tkm h r)
theorem RDs.tkm (h : ∀ n v, tk n = some v → tk' n = some v) : ∀ {ds : List D} {vs : List V}, RDs tk Z H ds vs → RDs tk' Z H ds vs
  | _, _, .nil => .nil
  | _, _, .cons a b => .cons (RD.tkm h a) (RDs.tkm h b)
theorem RK.tkm (h : ∀ n v, tk n = some v → tk' n = some v) : ∀ {ds : List (D × D)} {vs : List (Key × V)}, RK tk Z H ds vs → RK tk' Z H ds vs
  | _, _, .nil => .nil
  | _, _, .cons a b => .cons (RD.tkm h a) (RK.tkm h b)
theorem RT.tkm (h : ∀ n v, tk n = some v → tk' n = some v) : ∀ {ds : List (D × D)} {vs : List (List Key × V)}, RT tk Z H ds vs → RT tk' Z H ds vs
  | _, _, .nil => .nil
  | _, _, .cons a b => .cons (RD.tkm h a) (RT.tkm h b)
end
end
end L2.Fl

namespace L2.Fl
open PySem PySem.Spec PyProof.Rows

/-! ### a ground with more tokens, from a heap on -/
def Gd.tks (g : Gd) (tk : Nat → Option V) : Gd := { g with tk := tk }
theorem Ext.tks {g : Gd} {tk : Nat → Option V} {H H' : Hp} (e : Ext g H H') : Ext (g.tks tk) H H' := ⟨e.keep, e.dom⟩
theorem Ext.untks {g : Gd} {tk : Nat → Option V} {H H' : Hp} (e : Ext (g.tks tk) H H') : Ext g H H' := ⟨e.keep, e.dom⟩
theorem Good.tks {g : Gd} {tk : Nat → Option V} {Z : Addr → Prop} {H : Hp} {ω : W3} (e : Good g Z H ω) : Good (g.tks tk) Z H ω := ⟨e.zs, e.dice, e.tabs⟩
theorem Good.untks {g : Gd} {tk : Nat → Option V} {Z : Addr → Prop} {H : Hp} {ω : W3} (e : Good (g.tks tk) Z H ω) : Good g Z H ω := ⟨e.zs, e.dice, e.tabs⟩
/-- the ground from the heap Hs on -/
def Bc.from' (B : Bc) (tk : Nat → Option V) (Hs : Hp) (Z : Addr → Prop) : Bc := { g := B.g.tks tk, H0 := Hs, Z0 := Z, cls := B.cls, Ex := fun _ _ => False, E := B.E, Rz := B.Rz, hE := fun _ _ _ _ _ h => h.elim }
section
variable {B : Bc} {tk : Nat → Option V} {Z Z' : Addr → Prop} {ρ ρ' : Fr} {σ σ' : L2.St} {H H' : Hp} {ω ω' : W3}
theorem J.from' (j : J B Z ρ σ H ω) (h : ∀ n v, B.g.tk n = some v → tk n = some v) (hn : ∀ (i : Nat) (d : D), ρ[i]? ≠ some (.own d)) : J (B.from' tk H Z) Z ρ σ H ω :=
  ⟨j.good.tks, .refl, fun _ z => z, fun _ z => .inl z, j.len, fun i d e => by
    obtain ⟨v, h1, h2⟩ := j.val i d e
    exact ⟨v, h1, h2.tkm h⟩, fun i d e => absurd e (hn i d), j.res, fun i l d e p h1 => absurd h1 (hn i d)⟩
theorem J.back (j : J B Z ρ σ H ω) (j' : J (B.from' tk H Z) Z' ρ' σ' H' ω') {n : Nat} (hl : n = σ'.length) : J B Z' (List.replicate n .no) σ' H' ω' := by
  have no : ∀ (i : Nat) (s : Slot), (List.replicate n Slot.no)[i]? = some s → s = .no := fun i s e => by
    rw [List.getElem?_replicate] at e
    split at e
    · exact (Option.some.inj e).symm
    · cases e
  refine ⟨j'.good.untks, j.ext.trans j'.ext.untks, fun p z => j'.z0 p (j.z0 p z), fun p z => ?_, by rw [List.length_replicate, hl], fun i d e => (by cases no _ _ e), fun i d e => (by cases no _ _ e), fun p r => j'.res p r, fun i l d e p h1 => (by cases no _ _ h1)⟩
  rcases j'.zn p z with z | z
  · exact j.zn p z
  · exact .inr (j.ext.dom p z)
end
end L2.Fl

namespace L2.Fl
open PySem PySem.Spec PyProof.Rows

/-! ### five refusals told, of functions that stand in a list -/
def nOwn (ρ : Fr) : Bool := ρ.all fun s => match s with
  | .own _ => false
  | _ => true
theorem nOwn_ok {ρ : Fr} (h : nOwn ρ = true) (i : Nat) (d : D) : ρ[i]? ≠ some (.own d) := fun e => by
  have := (List.all_eq_true.mp h) _ (List.mem_of_getElem? e)
  cases this
/-- tokens: those of the ground, the functions, the yard -/
def tk20 (tk : Nat → Option V) (LF : Nat → LamF) (x : Addr) : Nat → Option V := fun n => if n = 0 then tk 0 else if n = 6 then some (.ref x) else if n ≤ 5 then some (.ref (LF (n - 1)).f) else none
def told20 (a : EM D) (n iM iY : Nat) (R : Nat → List Bool) : EM D := fun ρ ω => match a ρ ω with
  | .ok (.tok (k + 1)) ρ' ω' => (match ρ'[iM]?, ρ'[iY]? with
    | some (.val (.int m)), some (.val (.tok 6)) => if (decide (k < 5) && decide (1 ≤ m) && decide (m ≤ 900) && nOwn ρ' && decide (ρ'.length = n)) = true then .ok (.lst ((R k).map .bl)) ρ' ω' else .bad
    | _, _ => .bad)
  | _ => .bad
theorem told20_inv {a : EM D} {n iM iY : Nat} {R : Nat → List Bool} {ρ : Fr} {ω : W3} : told20 a n iM iY R ρ ω = .bad ∨ ∃ (k : Nat) (m : Int) (ρ' : Fr) (ω' : W3), a ρ ω = .ok (.tok (k + 1)) ρ' ω' ∧ ρ'[iM]? = some (.val (.int m)) ∧ ρ'[iY]? = some (.val (.tok 6)) ∧ k < 5 ∧ 1 ≤ m ∧ m ≤ 900 ∧ nOwn ρ' = true ∧ ρ'.length = n ∧
    told20 a n iM iY R ρ ω = .ok (.lst ((R k).map .bl)) ρ' ω' := by
  unfold told20
  split
  · rename_i k ρ' ω' ea
    split
    · rename_i m e2 e3
      by_cases hc : (decide (k < 5) && decide (1 ≤ m) && decide (m ≤ 900) && nOwn ρ' && decide (ρ'.length = n)) = true
      · refine .inr ⟨k, m, ρ', ω', ea, e2, e3, ?_⟩
        rw [if_pos hc]
        simp only [Bool.and_eq_true, decide_eq_true_eq] at hc
        obtain ⟨⟨⟨⟨hk, m1⟩, m9⟩, no⟩, hn⟩ := hc
        exact ⟨hk, m1, m9, no, hn, rfl⟩
      · rw [if_neg hc]; exact .inl rfl
    · exact .inl rfl
  · exact .inl rfl
/-- the bodies' frame: many alone is known -/
def manyF (n iM : Nat) (m : Int) : Fr := (List.replicate n Slot.no).set iM (.val (.int m))
theorem manyF_get {n iM : Nat} {m : Int} {i : Nat} {s : Slot} (e : (manyF n iM m)[i]? = some s) : (i = iM ∧ s = .val (.int m)) ∨ s = .no := by
  unfold manyF at e
  by_cases h : iM = i
  · subst h
    have hi : iM < n := by
      have := (List.getElem?_eq_some_iff.mp e).1
      simpa using this
    rw [List.getElem?_set_self (by simpa using hi)] at e
    exact .inl ⟨rfl, (Option.some.inj e).symm⟩
  · rw [List.getElem?_set_ne h, List.getElem?_replicate] at e
    split at e
    · exact .inr (Option.some.inj e).symm
    · cases e
/-- what the classes say -/
structure K20 (K : PySem.W.Frag) (cl : Nat → Addr) (cv : Nat → Value) (VE QF : Value) : Prop where
  exc : ∀ k, k < 5 → ExcC K (cl k)
  qf : ∀ k, k < 5 → PySem.W.exmOne K (.ref (cl k)) QF = some true
  one : ∀ k, k < 5 → ∀ j, j < 5 → PySem.W.kitOne K (.ref (cl k)) (cv j) = some (decide (k = j))
  ve : ∀ k, k < 5 → PySem.W.kitOne K (.ref (cl k)) VE = some true
def row20 (k : Nat) : List Bool := [decide (k = 0), decide (k = 1), decide (k = 2), decide (k = 3), decide (k = 4), true]
theorem tTq20 {K : PySem.W.Frag} {cl : Nat → Addr} {cv : Nat → Value} {VE QF : Value} (kk : K20 K cl cv VE QF) {k : Nat} (hk : k < 5) {d : Option Addr} {H : Hp} {Q : VK} (hd : DOk d H)
    (h : ∀ p1 p2 p3, H p1 = none → upd H p1 (.lst [V.bl (decide (k = 0)), V.bl (decide (k = 1)), V.bl (decide (k = 2)), V.bl (decide (k = 3))]) p2 = none →
      upd (upd H p1 (.lst [V.bl (decide (k = 0)), V.bl (decide (k = 1)), V.bl (decide (k = 2)), V.bl (decide (k = 3))])) p2 (.lst [V.bl (decide (k = 4)), V.bl true]) p3 = none →
      Q (.ref p3) (upd (upd (upd H p1 (.lst [V.bl (decide (k = 0)), V.bl (decide (k = 1)), V.bl (decide (k = 2)), V.bl (decide (k = 3))])) p2 (.lst [V.bl (decide (k = 4)), V.bl true])) p3 (.lst ((row20 k).map V.bl)))) :
    ∃ (D : Addr) (bl bm : List Bool), (Value.ref (cl k) = .ref D) ∧ bl.length = [cv 0, cv 1, cv 2, cv 3].length ∧ bm.length = [cv 4, VE].length ∧ ExcC K D ∧ PySem.W.exmOne K (.ref (cl k)) QF = some true ∧
      tTl K D d ([cv 0, cv 1, cv 2, cv 3].zip bl) ([cv 4, VE].zip bm) H Q := by
  refine ⟨cl k, [decide (k = 0), decide (k = 1), decide (k = 2), decide (k = 3)], [decide (k = 4), true], rfl, rfl, rfl, kk.exc k hk, kk.qf k hk, hd, ?_, h⟩
  intro c hc
  simp only [List.zip_cons_cons, List.zip_nil_right, List.cons_append, List.nil_append, List.mem_cons, List.not_mem_nil, or_false] at hc
  rcases hc with rfl | rfl | rfl | rfl | rfl | rfl
  · exact kk.one k hk 0 (by decide)
  · exact kk.one k hk 1 (by decide)
  · exact kk.one k hk 2 (by decide)
  · exact kk.one k hk 3 (by decide)
  · exact kk.one k hk 4 (by decide)
  · exact kk.ve k hk
/-- what is known of the heap where the loop starts -/
structure Y20 (Hs : Hp) (pd : Option Addr) (C : Addr) (LF : Nat → LamF) (q : Str) (x : Addr) : Prop where
  codes : ∀ i, i < 5 → Hs (LF i).c = some (LamX.CodeO (LF i).c q)
  yard : ∃ dx fs w, Hs x = some (.ins C dx fs) ∧ fs.lookup ("wants" : Str) = some (V.ref w) ∧ Hs w = some (.dK []) ∧ fs.lookup ("sell" : Str) = none
section
variable {X : Cx} {B : Bc} {G : G0}
/-- the body's reading -/
def t20 (G : G0) (C BD : Addr) (bM : Nat → EM D) (iM iY : Nat) (i : Fin 5) (E : XK) : TE :=
  if i.1 < 4 then (fun σ H Q => ∃ pd, ExLE G pd E (bM i.1) σ H Q) else tMeth C "sell" (spSell C BD) [] E (tVar iY) (tCons (tVar iM) tNil)
theorem keep_at {pd : Option Addr} {tk : Nat → Option V} {Hs H : Hp} {Z : Addr → Prop} {ω : W3} {Zs : Addr → Prop} (gs : Good ((G.at pd).tks tk) Z H ω) (ex : Ext ((G.at pd).tks tk) Hs H) {p : Addr} {o : HO} (h : Hs p = some o) (f : Fix o) (hl : ∀ xs, o ≠ .lst xs) (hd : ∀ q, pd = some q → ∃ xs, Hs q = some (.lst xs)) : H p = some o := by
  refine ex.keep p o h (fun e => ?_) f
  obtain ⟨xs, hx⟩ := hd p e
  rw [h] at hx
  cases hx
  exact hl xs rfl
theorem rd_bls {tk : Nat → Option V} {Z : Addr → Prop} {H : Hp} : ∀ bs : List Bool, RDs tk Z H (bs.map D.bl) (bs.map V.bl)
  | [] => .nil
  | b :: bs => .cons (.bl b) (rd_bls bs)
theorem i_told20 {K : PySem.W.Frag} {pd : Option Addr} {Hs : Hp} {Zs : Addr → Prop} {x C BD : Addr} {LF : Nat → LamF} {q : Str} {cv : Nat → Value} {VE QF : Value} {ci : Nat → Nat} {bM : Nat → EM D} {iM iY n : Nat} {a : EM D}
    (hg : B.g = G.at pd) (hcls : B.cls = G.cls) (y : Y20 Hs pd C LF q x) (hpd : ∀ q, pd = some q → ∃ xs, Hs q = some (.lst xs)) (kk : K20 K (fun k => G.cls (ci k)) cv VE QF) (hBD : BD = G.cls (ci 4))
    (hex : ∀ i, i < 4 → ∀ (m : Int) (ω : W3), 1 ≤ m → m ≤ 900 → bM i (manyF n iM m) ω = .exc (ci i) ω) (hrz : B.Rz = fun _ => False)
    (σ : L2.St) (H : Hp) (Q : VK) (h : RdE (B.from' (tk20 B.g.tk LF x) Hs Zs) (told20 a n iM iY row20) σ H Q) :
    tCons (RdE (B.from' (tk20 B.g.tk LF x) Hs Zs) a) tNil σ H fun vs H1 => ∃ i : Fin 5, vs = [V.ref (LF i.1).f] ∧ H1 (LF i.1).c = some (LamX.CodeO (LF i.1).c q) ∧ TTq K QF [cv 0, cv 1, cv 2, cv 3] [cv 4, VE] (fun E H' Q' => t20 G C BD bM iM iY i E σ H' Q') H1 Q := by
  obtain ⟨Z, ρ, ω, j, h⟩ := h
  refine ⟨Z, ρ, ω, j, ?_⟩
  rcases told20_inv (a := a) (n := n) (iM := iM) (iY := iY) (R := row20) (ρ := ρ) (ω := ω) with et | ⟨k, m, ρ1, ω1, ea, e2, e3, hk, m1, m9, no, hn, et⟩
  · rw [et] at h; exact h.elim
  · rw [et] at h
    rw [ea]
    simp only at h
    intro Z1 v H1 e1 z1 j1 r1
    have hgB : (B.from' (tk20 B.g.tk LF x) Hs Zs).g = (G.at pd).tks (tk20 B.g.tk LF x) := by
      show B.g.tks _ = _
      rw [hg]
    have no := nOwn_ok no
    have hn : σ.length = n := by rw [← j1.len]; exact hn
    have hv : v = .ref (LF k).f := by
      cases r1 with
      | tok e =>
        have e : tk20 B.g.tk LF x (k + 1) = some v := e
        unfold tk20 at e
        rw [if_neg (by omega), if_neg (by omega), if_pos (by omega)] at e
        exact (Option.some.inj e).symm
      | obj _ ro => cases ro
    subst hv
    have gd1 : Good ((G.at pd).tks (tk20 B.g.tk LF x)) Z1 H1 ω1 := by
      have := j1.good
      rw [hgB] at this; exact this
    have ex1 : Ext ((G.at pd).tks (tk20 B.g.tk LF x)) Hs H1 := by
      have := j1.ext
      rw [hgB] at this; exact this
    have kp : ∀ {p : Addr} {o : HO}, Hs p = some o → Fix o → (∀ xs, o ≠ .lst xs) → H1 p = some o := fun a b c => keep_at (Zs := Zs) gd1 ex1 a b c hpd
    refine ⟨⟨k, hk⟩, rfl, kp (y.codes k hk) (fun _ z => by cases z) (fun _ z => by cases z), ?_⟩
    -- what is told
    have fin : ∀ (d : Option Addr) (H2 : Hp) (Z2 : Addr → Prop), Ext (G.at pd) H1 H2 → Good (G.at pd) Z2 H2 ω1 → DOk d H2 → ∃ (D : Addr) (bl bm : List Bool), (Value.ref (G.cls (ci k)) = .ref D) ∧ bl.length = [cv 0, cv 1, cv 2, cv 3].length ∧ bm.length = [cv 4, VE].length ∧ ExcC K D ∧ PySem.W.exmOne K (.ref (G.cls (ci k))) QF = some true ∧
        tTl K D d ([cv 0, cv 1, cv 2, cv 3].zip bl) ([cv 4, VE].zip bm) H2 Q := by
      intro d H2 Z2 ex2 gd2 dk
      refine tTq20 kk hk dk fun p1 p2 p3 f1 f2 f3 => ?_
      have exB : Ext (B.from' (tk20 B.g.tk LF x) Hs Zs).g H1 H2 := by
        rw [hgB]; exact ex2.tks
      have gdB : Good (B.from' (tk20 B.g.tk LF x) Hs Zs).g Z1 H2 ω1 := by
        refine ⟨fun p z => ?_, ?_, ?_⟩
        · obtain ⟨np, o, e, f⟩ := gd1.zs p z
          exact ⟨by rw [hgB]; exact np, o, ex2.keep p o e np f, f⟩
        · rw [hgB]; exact gd2.dice
        · rw [hgB]; exact gd2.tabs
      have j2 := j1.called exB (fun _ z => z) (fun _ z => .inl z) gdB
      have g1 : Grow (B.from' (tk20 B.g.tk LF x) Hs Zs).g Z1 H2 Z1 _ := grow_new0 (o := .lst [V.bl (decide (k = 0)), V.bl (decide (k = 1)), V.bl (decide (k = 2)), V.bl (decide (k = 3))]) f1
      have g2 : Grow (B.from' (tk20 B.g.tk LF x) Hs Zs).g Z1 _ Z1 _ := grow_new0 (o := .lst [V.bl (decide (k = 4)), V.bl true]) f2
      have g3 : Grow (B.from' (tk20 B.g.tk LF x) Hs Zs).g Z1 _ (fun q => Z1 q ∨ q = p3) _ := grow_new (o := .lst ((row20 k).map V.bl)) f3 fix_lst
      have g := (g1.trans g2).trans g3
      exact h (fun q => Z1 q ∨ q = p3) (.ref p3) _ ((e1.trans exB).trans g.ext) (fun p z => .inl (z1 p z)) (j2.grow g) (.obj (.inr rfl) (.lst upd_same (rd_bls _)))
    unfold t20
    by_cases h4 : k < 4
    · simp only [h4, if_true]
      let B0 : Bc := { g := G.at pd, H0 := H1, Z0 := Z1, cls := G.cls, Ex := fun c ω' => c = ci k ∧ ω' = ω1, E := fun cls d H' => ∃ Z', cls = .ref (G.cls (ci k)) ∧ Ext (G.at pd) H1 H' ∧ Good (G.at pd) Z' H' ω1 ∧ DOk d H', Rz := fun _ => False, hE := fun c ω' d H' Z' e ex gd dk => ⟨Z', by rw [e.1], ex, by rw [← e.2]; exact gd, dk⟩ }
      have jB : J B0 Z1 (manyF n iM m) σ H1 ω1 := by
        refine ⟨gd1.untks, .refl, fun _ z => z, fun _ z => .inl z, by unfold manyF; rw [List.length_set, List.length_replicate, hn], fun i d e => ?_, fun i d e => ?_, fun _ z => z.elim, fun i l d e p e1 => ?_⟩
        · rcases manyF_get e with ⟨e4, e5⟩ | e5
          · cases e5
            subst e4
            obtain ⟨v, h1, h2⟩ := j1.val i _ e2
            refine ⟨v, h1, ?_⟩
            cases h2 with
            | int _ => exact .int m
            | obj _ ro => cases ro
          · cases e5
        · rcases manyF_get e with ⟨e4, e5⟩ | e5 <;> cases e5
        · rcases manyF_get e1 with ⟨e4, e5⟩ | e5 <;> cases e5
      refine ⟨B0.E, ⟨pd, B0, ⟨⟨pd, rfl⟩, rfl⟩, rfl, rfl, rfl, Z1, manyF n iM m, ω1, jB, ?_⟩, ?_⟩
      · rw [hex k h4 m ω1 m1 m9]
        exact ⟨rfl, rfl⟩
      · rintro cls d H2 ⟨Z2, rfl, ex2, gd2, dk⟩
        exact fin d H2 Z2 ex2 gd2 dk
    · have k4 : k = 4 := by omega
      subst k4
      simp only [h4, if_false]
      obtain ⟨dx, fs, w, y1, y2, y3, y4⟩ := y.yard
      obtain ⟨vy, hy1, hy2⟩ := j1.val iY _ e3
      have hvy : vy = .ref x := by
        cases hy2 with
        | tok e =>
          have e : tk20 B.g.tk LF x 6 = some vy := e
          unfold tk20 at e
          rw [if_neg (by omega), if_pos rfl] at e
          exact (Option.some.inj e).symm
        | obj _ ro => cases ro
      subst hvy
      obtain ⟨vm, hm1, hm2⟩ := j1.val iM _ e2
      have hvm : vm = .int m := by
        cases hm2 with
        | int _ => rfl
        | obj _ ro => cases ro
      subst hvm
      have yx := kp y1 (fun _ z => by cases z) (fun _ z => by cases z)
      have yw := kp y3 (fun _ z => by cases z) (fun _ z => by cases z)
      refine ⟨fun cls d H' => cls = .ref (G.cls (ci 4)) ∧ d = none ∧ H' = H1, ⟨.ref x, hy1, x, dx, fs, rfl, yx, y4, .int m, hm1, x, dx, fs, w, m, rfl, yx, y2, yw, by rw [hBD], rfl, rfl⟩, ?_⟩
      rintro cls d H2 ⟨rfl, rfl, rfl⟩
      exact fin none H2 Z1 .refl gd1.untks DOk.no
end
end L2.Fl

namespace L2.Fl
open PySem PySem.Spec PyProof.Rows

instance : Inhabited LamF := ⟨⟨0, 0, .none, .none⟩⟩
section
variable {X : Cx} {B : Bc} {G : G0}
theorem m_told20 {k : Nat} {params : Arguments} {LI : Nat → LamI} {LF : Nat → LamF} {pd : Option Addr} {Hs : Hp} {Zs : Addr → Prop} {x : Str} {xa C BD : Addr} {cv : Nat → Value} {VE QF : Value} {ci : Nat → Nat} {bM : Nat → EM D} {iM iY n : Nat} {a : EM D} {e : Expr} {p pos : Pos}
    (T : ToldQ X.prog X.w X.K X.mg X.base x QF [cv 0, cv 1, cv 2, cv 3] [cv 4, VE]) (hg : Gl X x) (hpar : ∀ i, i < 5 → (LI i).params = params)
    (hp : ∀ i, i < 5 → lamP X (LI i) (LF i) ∈ X.pn) (hr : Room (k + 2) X.A) (S : ∀ i, i < 5 → LamX.LamS X.env.scope (LI i).scope)
    (hbind : ∀ (i : Nat) (q : Str) (cl : List (Str × Addr)) (pm cv ctv : Value), i < 5 → bindArgs (PySem.W.kla_fn "<lambda>" q params (LI i).body (LI i).scope cl pm cv ctv) ⟨[], []⟩ = pure [])
    (hb4 : ∀ i, i < 4 → ∀ (A : Around) (outer : List Env) (s : Shared) (H : Hp) (B : Bc), BOf G B → B.Rz = (fun _ => False) → Room k (A.deeper (LamX.lamEnv X (LI i).scope s.heap.objs.size (LF i).f (LF i).c)) → PE (LamX.lamCx X A outer s H B.E (LI i).scope (LF i).f (LF i).c) (LI i).body (RdE B (bM i)))
    (hb5 : ∀ (A : Around) (outer : List Env) (s : Shared) (H : Hp) (E : XK), Room k (A.deeper (LamX.lamEnv X (LI 4).scope s.heap.objs.size (LF 4).f (LF 4).c)) → PE (LamX.lamCx X A outer s H E (LI 4).scope (LF 4).f (LF 4).c) (LI 4).body (tMeth C "sell" (spSell C BD) [] E (tVar iY) (tCons (tVar iM) tNil)))
    (hgd : B.g = G.at pd) (hcls : B.cls = G.cls) (y : Y20 Hs pd C LF (X.env.qual ++ "<lambda>") xa) (hpd : ∀ q, pd = some q → ∃ xs, Hs q = some (.lst xs)) (kk : K20 X.K (fun k => G.cls (ci k)) cv VE QF) (hBD : BD = G.cls (ci 4))
    (hex : ∀ i, i < 4 → ∀ (m : Int) (ω : W3), 1 ≤ m → m ≤ 900 → bM i (manyF n iM m) ω = .exc (ci i) ω) (hrz : B.Rz = fun _ => False)
    (he : PE X e (RdE (B.from' (tk20 B.g.tk LF xa) Hs Zs) a)) (hst : starEach [e] X.env = (false, eval e X.env) :: starEach [] X.env := by rfl) (hpl : (backTo pos (starEach [] X.env)).any (·.1) = false := by rfl) (hdb : (x == ("__debug__" : Str)) = false := by decide) :
    PE X (.Call (.Name x p) [e] [] pos) (RdE (B.from' (tk20 B.g.tk LF xa) Hs Zs) (told20 a n iM iY row20)) :=
  PE.imp (pe_toldP (ι := Fin 5) (k := k) (params := params) (f := fun i => (LF i.1).f) (c := fun i => (LF i.1).c) (body := fun i => (LI i.1).body) (scope := fun i => (LI i.1).scope) (pm := fun i => (LF i.1).pm) (ctv := fun i => (LF i.1).ctv) (t := fun i E => t20 G C BD bM iM iY i E) T hg
    (fun i => by
      have := hp i.1 i.2
      unfold lamP at this
      rw [hpar i.1 i.2] at this
      exact this) hr (fun i => S i.1 i.2) (fun i q cl pm cv ctv => hbind i.1 q cl pm cv ctv i.2)
    (fun i A outer s H E hr2 => by
      unfold t20
      by_cases h4 : i.1 < 4
      · simp only [h4, if_true]
        exact ⟨fun pins s' σ H' Q I ⟨pd, B', hB', _, hE, hz, q⟩ => by
          subst hE
          exact (hb4 i.1 h4 A outer s H B' hB' hz hr2).run pins s' σ H' Q I q⟩
      · have k4 : i = ⟨4, by decide⟩ := by
          apply Fin.ext
          have := i.2
          show i.1 = 4
          omega
        subst k4
        simp only [h4, if_false]
        exact hb5 A outer s H E hr2) he hst hpl hdb) fun σ H Q q => i_told20 hgd hcls y hpd kk hBD hex hrz σ H Q q

/-- the turn from the yard on -/
def toks5 : D := .lst [.tok 1, .tok 2, .tok 3, .tok 4, .tok 5]
def turn20 (n iM iY iW : Nat) (sL : SM) : SM := fun ρ ω => match ρ[iM]? with
  | some (.val (.int m)) => if (decide (1 ≤ m) && decide (m ≤ 900) && nOwn ρ && decide (ρ.length = n)) = true then (match sL ((ρ.set iY (.val (.tok 6))).set iW (.val toks5)) ω with
    | .nx ρ' ω' => if ρ'.length = n then .nx (List.replicate n .no) ω' else .bad
    | _ => .bad) else .bad
  | _ => .bad
def yardArgs (iM : Nat) : EM (List D) := consM (tupM (consM (tupM (consM (vr iM) nilM)) nilM)) (consM (kk (.int 1)) nilM)
/-- the loop's reading -/
def tLoop (B : Bc) (pd : Option Addr) (C : Addr) (q : Str) (sL : SM) (fs : List LamF) : TS := fun D σ H => ∃ (x : Addr) (Z : Addr → Prop), Y20 H pd C (fun i => fs.getD i default) q x ∧ (∀ q, pd = some q → ∃ xs, H q = some (.lst xs)) ∧ RdS (B.from' (tk20 B.g.tk (fun i => fs.getD i default) x) H Z) sL D σ H
theorem i_turn20 {pd : Option Addr} {C : Addr} {P : Addr} {L : Nat → Nat → Option Str} {fmC : FM} {n iM iY iW : Nat} {sL : SM} (hg : B.g = G.at pd) (hcls : B.cls = G.cls) (htk : ∀ i, i ≠ 0 → G.tk pd i = none) (hP : TabLam B.g P L) (hY : iY < n) (hW : iW < n)
    (hck : ∀ (m : Int) (ω : W3), 1 ≤ m → m ≤ 900 → fmC [.tup [.tup [.int m]]] ω = .ok .non ω) (D' : Ends) (σ : L2.St) (H : Hp) (h : RdS B (turn20 n iM iY iW sL) D' σ H) :
    tSeq (tAsg (tMake C (spYard G fmC C) [] B.E (RdA B (yardArgs iM))) (gName iY)) (tLams X P L 5 iW (tLoop B pd C (X.env.qual ++ "<lambda>") sL)) D' σ H := by
  obtain ⟨Z, ρ, ω, j, h⟩ := h
  unfold turn20 at h
  split at h
  case h_2 => exact h.elim
  case h_1 m em =>
  split at h
  case isFalse => exact h.elim
  case isTrue hc =>
  simp only [Bool.and_eq_true, decide_eq_true_eq] at hc
  obtain ⟨⟨⟨m1, m9⟩, no⟩, hn⟩ := hc
  have no := nOwn_ok no
  have ef : yardArgs iM ρ ω = .ok [.tup [.tup [.int m]], .int 1] ρ ω := by
    have ev : vr iM ρ ω = .ok (.int m) ρ ω := by unfold vr; rw [em]
    have e1 : consM (vr iM) nilM ρ ω = .ok [.int m] ρ ω := by unfold consM; rw [ev]; rfl
    have e2 : tupM (consM (vr iM) nilM) ρ ω = .ok (.tup [.int m]) ρ ω := by unfold tupM; rw [e1]; simp [Out.andThen, LIM]
    have e3 : consM (tupM (consM (vr iM) nilM)) nilM ρ ω = .ok [.tup [.int m]] ρ ω := by unfold consM; unfold consM at e2; rw [e2]; rfl
    have e4 : tupM (consM (tupM (consM (vr iM) nilM)) nilM) ρ ω = .ok (.tup [.tup [.int m]]) ρ ω := by rw [tupM, e3]; simp [Out.andThen, LIM]
    unfold yardArgs
    rw [consM, e4]; rfl
  refine ⟨Z, ρ, ω, j, ?_⟩
  rw [ef]
  intro Z1 vs H1 e1 z1 j1 rs
  obtain ⟨vb, rb, hvs⟩ : ∃ vb, RD B.g.tk Z1 H1 (.tup [.tup [.int m]]) vb ∧ vs = [vb, .int 1] := by
    cases rs with
    | cons a b =>
      cases b with
      | cons c d =>
        cases d
        cases c with
        | int _ => exact ⟨_, a, rfl⟩
        | obj _ ro => cases ro
  subst hvs
  intro x dx nx ndx hne
  have gr : Grow B.g Z1 H1 Z1 (upd (upd H1 dx (.own x)) x (.ins C dx [])) := (grow_new0 (o := .own x) ndx).trans (grow_new0 (o := .ins C dx []) (by rw [upd_ne (Ne.symm hne)]; exact nx))
  have j1g := j1.grow gr
  have tke : B.g.tk = G.tk pd := by rw [hg]; rfl
  refine ⟨pd, Z1, x, dx, vb, .int 1, .tup [.tup [.int m]], ω, ω, rfl, by rw [← hg]; exact j1g.good, by rw [← tke]; exact rb.grow gr, upd_same, hck m ω m1 m9, ?_⟩
  intro Hc Z2 H2 fs w exc z2 n2 gdc ys l1 l2 l3
  refine ⟨rfl, ?_⟩
  rw [← hg] at exc gdc
  have xno : ∀ q, B.g.pd = some q → q ≠ x := fun q e z => by
    have := j1.good.dice q e
    rw [z, nx] at this; cases this
  have xc : Hc x = some (.ins C dx []) := exc.keep x _ upd_same (fun e => xno x e rfl) (fun _ z => by cases z)
  have ex2 : Ext B.g H1 H2 := by
    refine ⟨fun p o e np f => ?_, fun p e => gr.ext.dom p (exc.dom p (ys.dom p e))⟩
    refine ys.keep p o (exc.keep p o (gr.keep p o e) np f) fun z => ?_
    rw [z, nx] at e; cases e
  have gd2 : Good B.g Z2 H2 ω := by
    refine ⟨fun p z => ?_, fun q e => ys.keep q _ (gdc.dice q e) (xno q e), fun p hp => ?_⟩
    · obtain ⟨np, o, e, f⟩ := gdc.zs p z
      refine ⟨np, o, ys.keep p o e fun z' => ?_, f⟩
      rcases n2 p z with z3 | z3
      · obtain ⟨_, o', e', _⟩ := j1.good.zs p z3
        rw [z', nx] at e'; cases e'
      · rw [z', upd_same] at z3; cases z3
    · obtain ⟨ps, a, b, c⟩ := gdc.tabs p hp
      refine ⟨ps, ys.keep _ _ a fun z => ?_, b, fun pos cv q e3 e4 => ?_⟩
      · rw [z, xc] at a; cases a
      · obtain ⟨c', e5, e6⟩ := c pos cv q e3 e4
        refine ⟨c', e5, ys.keep _ _ e6 fun z => ?_⟩
        rw [z, xc] at e6; cases e6
  have j2 := j1.called ex2 z2 (fun p z => by
    rcases n2 p z with z | z
    · exact .inl z
    · exact .inr (gr.ext.dom p z)) gd2
  refine ⟨j2.good.tabs _ hP.mem, fun fl H3 hfl eN dN T3 hcod p hp => ?_⟩
  obtain ⟨ps, hps, _⟩ := j2.good.tabs _ hP.mem
  have nP : ∀ p o, H2 p = some o → Fix o → p ≠ P := fun p o e f z => by
    rw [z, hps] at e; cases e; exact f ps rfl
  have ex3 : Ext B.g H2 H3 := ⟨fun p o e _ f => eN p o (nP p o e f) e, dN⟩
  have gd3 : Good B.g Z2 H3 ω := by
    refine ⟨fun p z => ?_, fun q e => eN q _ (nP q _ (j2.good.dice q e) fix_lst) (j2.good.dice q e), fun p hp => ?_⟩
    · obtain ⟨n, o, e, f⟩ := j2.good.zs p z
      exact ⟨n, o, eN p o (nP p o e f) e, f⟩
    · by_cases e : p.1 = P
      · have e2 := hP.only p hp e
        obtain ⟨p1, p2⟩ := p
        simp only at e e2
        subst e e2
        exact T3
      · obtain ⟨ps', a, b, c⟩ := j2.good.tabs p hp
        refine ⟨ps', eN _ _ e a, b, fun pos cv q e1 e2 => ?_⟩
        obtain ⟨c', e3, e4⟩ := c pos cv q e1 e2
        refine ⟨c', e3, eN _ _ (fun z => ?_) e4⟩
        rw [z, hps] at e4; cases e4
  have j3 := j2.called ex3 (fun _ z => z) (fun _ z => .inl z) gd3
  have g4 : Grow B.g Z2 H3 (fun q => Z2 q ∨ q = p) _ := grow_new (o := .lst (fl.map fun z => V.ref z.f)) hp fix_lst
  have j4 := j3.grow g4
  have yx : H3 x = some (.ins C dx fs) := eN x _ (nP x _ ys.at_ (fun _ z => by cases z)) ys.at_
  have yw : H3 w = some (.dK []) := eN w _ (nP w _ l2 fix_dK) l2
  have kp4 : ∀ q o, H3 q = some o → upd H3 p (.lst (fl.map fun z => V.ref z.f)) q = some o := fun q o e => g4.keep q o e
  refine ⟨x, fun q => Z2 q ∨ q = p, ⟨fun i hi => ?_, dx, fs, w, kp4 _ _ yx, l1, kp4 _ _ yw, l3⟩, fun q e => ⟨_, j4.good.dice q (by rw [hg]; exact e)⟩, ?_⟩
  · have hm : fl.getD i default ∈ fl := by
      rw [List.getD_eq_getElem?_getD, List.getElem?_eq_getElem (by omega)]
      exact List.getElem_mem _
    exact kp4 _ _ (hcod _ hm)
  · have j5 : J (B.from' (tk20 B.g.tk (fun i => fl.getD i default) x) (upd H3 p (.lst (fl.map fun z => V.ref z.f))) fun q => Z2 q ∨ q = p) _ ρ σ _ ω := j4.from' (fun i v e => by
      unfold tk20
      by_cases h0 : i = 0
      · subst h0; rw [if_pos rfl]; exact e
      · rw [tke, htk i h0] at e; cases e) no
    have t6 : tk20 B.g.tk (fun i => fl.getD i default) x 6 = some (.ref x) := by unfold tk20; rw [if_neg (by omega), if_pos rfl]
    have j6 := j5.setVal (i := iY) (d := .tok 6) (v := .ref x) (.tok t6)
    have tks : ∀ i, i < 5 → tk20 B.g.tk (fun i => fl.getD i default) x (i + 1) = some (.ref (fl.getD i default).f) := fun i hi => by
      unfold tk20
      rw [if_neg (by omega), if_neg (by omega), if_pos (by omega)]; rfl
    have j7 := j6.setVal (i := iW) (d := toks5) (v := .ref p) (.obj (.inr rfl) (.lst upd_same (by
      match fl, hfl, tks with
      | [a, b, c, d, e], _, tks => exact .cons (.tok (tks 0 (by decide))) (.cons (.tok (tks 1 (by decide))) (.cons (.tok (tks 2 (by decide))) (.cons (.tok (tks 3 (by decide))) (.cons (.tok (tks 4 (by decide))) .nil)))))))
    refine ⟨_, _, ω, j7, ?_⟩
    cases es : sL ((ρ.set iY (.val (.tok 6))).set iW (.val toks5)) ω with
    | nx ρ' ω' =>
      simp only [es] at h
      intro Z' σ' H' k' j'
      split at h
      case isFalse => exact h.elim
      case isTrue hl' =>
      have hl : n = σ'.length := by rw [← j'.len]; exact hl'.symm
      have jb := j4.back j' hl
      refine h Z' σ' H' ?_ jb
      exact ((Kp.of j.good z1 e1).trans (.of j1.good z2 ex2)).trans ((Kp.of j2.good (fun _ z => z) ex3).trans ((Kp.of j3.good g4.sub g4.ext).trans k'))
    | rt d ω' => simp only [es] at h; exact h.elim
    | bk ρ' ω' => simp only [es] at h; exact h.elim
    | ct ρ' ω' => simp only [es] at h; exact h.elim
    | exc c ω' => simp only [es] at h; exact h.elim
    | bad => simp only [es] at h; exact h.elim
end
end L2.Fl

namespace L2.Fl.k20
open PySem PySem.Spec PyProof.Rows
def top (i : Nat) : Stmt := PySem.Challenge.pw_quarryline_k20_refusals_apart.main.body.getD i (.Pass ⟨0, 0, 0, 0⟩)
abbrev st_bp : Stmt := (clsBody (top 5)).getD 0 (.Pass ⟨0, 0, 0, 0⟩)
section
variable {P : Program} {w : World} {K : PySem.W.Frag} {mg : Str → Option Value} {base : Heap} {G : G0}
abbrev st_is_whole : Stmt := top 9
theorem sc_is_whole : FnScope ["thing", "low", "high"] ["thing", "low", "high"] (defScope st_is_whole) := ⟨rfl, rfl, rfl, by decide +kernel, rfl, by decide +kernel, by decide +kernel⟩
def b_is_whole : SM := rtS (ofT (andT (asB (op1 (isiD "int") (bw 0))) (asB (ofT (andT (asB (ofT (notT (asB (op1 (isiD "bool") (bw 0)))))) (asB (chM leD leD (bw 1) (bw 0) (bw 2))))))))
def fM_is_whole : FM := runM 3 b_is_whole
theorem ok_is_whole {f : Addr} {fd : FuncData} {cv : Value} (F : FunC K "is_whole" "is_whole" st_is_whole f fd cv) (hb : Bn mg) (hG : ∀ pd, G.tk pd 0 = pd.map V.ref) : FnOk P w K mg base (L2.CX P w) 1 f fd ["thing", "low", "high"] (spM G 3 fM_is_whole) :=
  mkFn F sc_is_whole rfl (by decide) fun A outer sh H B hB hz hr => (
 s_one (s_ret (m_andV (eIsi hb.isinstance hb.int (by decide +kernel) isi_int (m_bw (pv 0))) (m_andV (m_notV (eIsi hb.isinstance hb.bool (by decide +kernel) isi_bool (m_bw (pv 0)))) (m_one (eCh sim_le sim_le op_le op_le (m_bw (pv 1)) (m_bw (pv 0)) (m_bw (pv 2))))))))
abbrev st_is_bed : Stmt := top 10
theorem sc_is_bed : FnScope ["thing", "row", "one"] ["thing"] (defScope st_is_bed) := ⟨rfl, rfl, rfl, by decide +kernel, rfl, by decide +kernel, by decide +kernel⟩
theorem dot_is_bed : (".0" : Str) ∉ (["thing", "row", "one"] : List Str) := by decide
def b_is_bed : SM := seqS (ifS (orT (notT (asB (op1 (isiD "tuple") (bw 0)))) (orT (asB (op2 eqD (bw 0) (tupM (nilM)))) (notT (asB (seekM false [1] (itM (bw 0)) (nmT 1) (yesT) (op1 (isiD "tuple") (bw 1))))))) (rtS (kk (.bl false))) (skipS))
 (seqS (ifS (asB (seekM true [1] (itM (bw 0)) (nmT 1) (yesT) (ofT (orT (asB (op2 neD (op1 lenD (bw 1)) (op1 lenD (op2 ixD (bw 0) (kk (.int 0)))))) (asB (op2 eqD (bw 1) (tupM (nilM)))))))) (rtS (kk (.bl false))) (skipS))
 (rtS (seek2M false [1, 2] [2] (itM (bw 0)) (nmT 1) (itM (vr 1)) (nmT 2) (callM fM_is_whole 3 (consM (vr 2) (consM (kk (.int 0)) (consM (op2 powD (kk (.int 10)) (kk (.int 6))) (nilM))))))))
def fM_is_bed : FM := runM 3 b_is_bed
theorem ok_is_bed {f : Addr} {fd : FuncData} {c_is_bed P_is_bed : Addr} (F : FunC K "is_bed" "is_bed" st_is_bed f fd (.ref c_is_bed)) (hb : Bn mg) (hG : ∀ pd, G.tk pd 0 = pd.map V.ref) (k_is_whole : Kn P w K mg base G "is_whole" 1 3 fM_is_whole) (tb_is_bed : LamX.TabB base mg c_is_bed P_is_bed) (fr_is_bed : FreeT G P_is_bed) : FnOk P w K mg base (L2.CX P w) 3 f fd ["thing"] (spM G 1 fM_is_bed) :=
  mkFn F sc_is_bed rfl (by decide) fun A outer sh H B hB hz hr => (
 s_cons (s_if ((w_or (m_tnot (m_tval (eIsi hb.isinstance hb.tuple (by decide +kernel) isi_tuple (m_bw (pv 0))))) (w_or (tEq hr (m_bw (pv 0)) (m_b (m_tup (a_nil)))) (w_or1 (m_tnot (m_tval (m_all hr hb (fr_is_bed.of hB) (by decide) (gm_fl hr (genEv hB tb_is_bed fr_is_bed rfl dot_is_bed sc_is_bed.nd rfl) (blkOk_by (own := [("row", 1)]) (by kernel_rfl)) (by decide) (by rfl) (by rfl) (w_seqB (m_bw (pv 0))) (fun _ => rfl) (fun _ _ _ _ _ _ _ => g_nm (pg_name (i := 1) sc_is_bed.nd rfl (Or.inl rfl))) (fun _ _ _ _ _ _ _ => t_nil) (fun _ _ _ _ _ _ _ => eIsi hb.isinstance hb.tuple (by decide +kernel) isi_tuple (m_bw (pv 1)))))))))).pt) (s_one (s_ret (m_bl pe_bl))) (s_nil))
 (s_cons (s_if (m_tval (m_any hr hb (fr_is_bed.of hB) (by decide) (gm_fl hr (genEv hB tb_is_bed fr_is_bed rfl dot_is_bed sc_is_bed.nd rfl) (blkOk_by (own := [("row", 1)]) (by kernel_rfl)) (by decide) (by rfl) (by rfl) (w_seqB (m_bw (pv 0))) (fun _ => rfl) (fun _ _ _ _ _ _ _ => g_nm (pg_name (i := 1) sc_is_bed.nd rfl (Or.inl rfl))) (fun _ _ _ _ _ _ _ => t_nil) (fun _ _ _ _ _ _ _ => m_orV (eNe (room_gen hr _) (m_b (eLen hb (m_bw (pv 1)))) (m_b (eLen hb (m_b (eIx (m_bw (pv 0)) (m_b (m_int pe_int))))))) (m_one (eEq (room_gen hr _) (m_bw (pv 1)) (m_b (m_tup (a_nil))))))))) (s_one (s_ret (m_bl pe_bl))) (s_nil))
 (s_one (s_ret (m_all2 hr hb (fr_is_bed.of hB) (by decide) (by decide) (by decide) (gm_fl2 (vs1 := [2]) hr (genEv hB tb_is_bed fr_is_bed rfl dot_is_bed sc_is_bed.nd rfl) (blkOk_by (own := [("row", 1), ("one", 2)]) (by kernel_rfl)) (by decide) (by rfl) (by rfl) (w_seqB (m_bw (pv 0))) (fun _ => rfl) (by decide) (fun _ _ _ => rfl) (fun _ _ _ _ _ _ _ => g_nm (pg_name (i := 1) sc_is_bed.nd rfl (Or.inl rfl))) (fun _ _ _ _ _ _ _ => w_seq (m_vr (pv 1))) (fun _ _ _ _ _ _ _ => g_nm (pg_name (i := 2) sc_is_bed.nd rfl (Or.inl rfl))) (fun _ _ _ _ _ _ _ => m_call k_is_whole (hB.blk _) (room_gen hr _) (by decide) (by rfl) passL (a_cons (m_vr (pv 2)) (a_cons (m_int pe_int) (a_cons (ePow (m_b (m_int pe_int)) (m_b (m_int pe_int))) (a_nil)))))))))))
abbrev st_check_bed : Stmt := top 11
theorem sc_check_bed : FnScope ["thing"] ["thing"] (defScope st_check_bed) := ⟨rfl, rfl, rfl, by decide +kernel, rfl, by decide +kernel, by decide +kernel⟩
def b_check_bed : SM := ifS (notT (asB (callM fM_is_bed 1 (consM (vr 0) (nilM))))) (raS 0) (skipS)
def fM_check_bed : FM := runM 1 b_check_bed
theorem ok_check_bed {f : Addr} {fd : FuncData} {cv : Value} (F : FunC K "check_bed" "check_bed" st_check_bed f fd cv) (hb : Bn mg) (hG : ∀ pd, G.tk pd 0 = pd.map V.ref) (k_is_bed : Kn P w K mg base G "is_bed" 3 1 fM_is_bed) (x_BadBed : OwnX K mg "BadBed" (G.cls 0)) : FnOk P w K mg base (L2.CX P w) 4 f fd ["thing"] (spM G 1 fM_check_bed) :=
  mkFn F sc_check_bed rfl (by decide) fun A outer sh H B hB hz hr => (
 s_one (s_if (m_tnot (m_tval (m_call k_is_bed hB hr (by decide) (by rfl) passF (a_cons (m_vr (pv 0)) (a_nil))))) (s_one (sRaise (n := 0) rfl (by rw [hB.cls]; exact x_BadBed) takesF)) (s_nil)))
abbrev st_partings : Stmt := top 14
theorem sc_partings : FnScope ["many", "k", "rows", "row", "run"] ["many"] (defScope st_partings) := ⟨rfl, rfl, rfl, by decide +kernel, rfl, by decide +kernel, by decide +kernel⟩
def b_partings_1 : SM := setS 2 (frz (lc2M [3, 4] [4] (itM (bw 2)) (nmT 3) (yesT) (rng1M (op2 addD (op1 maxDD (op2 addD (tupM (consM (op1 negD (kk (.int 1))) (nilM))) (bw 3))) (kk (.int 2)))) (nmT 4) (yesT) (op2 addD (bw 3) (tupM (consM (vr 4) (nilM))))))
def b_partings : SM := seqS (setS 2 (frz (lstF (consM (tupM (nilM)) (nilM)))))
 (seqS (forM (rng1M (bw 0)) (nmT 1)
 (b_partings_1))
 (rtS (vr 2)))
def fM_partings : FM := runM 5 b_partings
theorem ok_partings {f : Addr} {fd : FuncData} {cv : Value} (F : FunC K "partings" "partings" st_partings f fd cv) (hb : Bn mg) (hG : ∀ pd, G.tk pd 0 = pd.map V.ref) : FnOk P w K mg base (L2.CX P w) 1 f fd ["many"] (spM G 1 fM_partings) :=
  mkFn F sc_partings rfl (by decide) fun A outer sh H B hB hz hr => (
 s_cons (s_set (ps_set (i := 2) sc_partings.nd rfl (Or.inl rfl) (m_frz (f_lst (a_cons (m_tup (a_nil)) (a_nil))))))
 (s_cons (s_for ownF rfl (w_rng1 (pi_range1 (by rfl) hb.range (pa_cons (m_bw (pv 0)) pa_nil))) (g_nm (pg_name (i := 1) sc_partings.nd rfl (Or.inl rfl)))
 (s_one (sSetLc2 (vs1 := [4]) (i := 2) rfl sc_partings.nd rfl rfl rfl (w_seqB (m_bw (pv 2))) (blkOk_by (own := [("row", 3), ("run", 4)]) (by kernel_rfl)) (by decide) (by decide) (by decide) (fun _ _ _ _ _ _ => g_nm (pg_name (i := 3) sc_partings.nd rfl (Or.inl rfl))) (fun _ _ _ _ _ _ => t_nil) (fun _ _ _ _ _ _ => w_rng1 (pi_range1 (by rfl) hb.range (pa_cons (m_b (eAdd (m_b (eMaxA rfl hr hb (m_b (eAdd (m_b (m_tup (a_cons (eNeg (m_b (m_int pe_int))) (a_nil)))) (m_bw (pv 3)))))) (m_b (m_int pe_int)))) pa_nil))) (fun _ _ _ _ _ _ => g_nm (pg_name (i := 4) sc_partings.nd rfl (Or.inl rfl))) (fun _ _ _ _ _ _ => t_nil) (fun _ _ _ _ _ _ => eAdd (m_bw (pv 3)) (m_b (m_tup (a_cons (m_vr (pv 4)) (a_nil))))))))
 (s_one (s_ret (m_vr (pv 2))))))
abbrev st_least_hoist : Stmt := top 13
theorem sc_least_hoist : FnScope ["levels", "room", "step", "best", "row", "runs", "time", "run", "k"] ["levels", "room", "step"] (defScope st_least_hoist) := ⟨rfl, rfl, rfl, by decide +kernel, rfl, by decide +kernel, by decide +kernel⟩
theorem dot_least_hoist : (".0" : Str) ∉ (["levels", "room", "step", "best", "row", "runs", "time", "run", "k"] : List Str) := by decide
def b_least_hoist_1 : SM := seqS (setS 5 (frz (lcM [7] (rng1M (op2 addD (op1 maxDD (op2 addD (tupM (consM (op1 negD (kk (.int 1))) (nilM))) (bw 4))) (kk (.int 1)))) (nmT 7) (yesT) (frz (lcM [8] (rng1M (op1 lenD (bw 0))) (nmT 8) (asB (op2 eqD (op2 ixD (bw 4) (bw 8)) (bw 7))) (op2 ixD (bw 0) (bw 8)))))))
 (ifS (asB (seekM false [7] (itM (bw 5)) (nmT 7) (yesT) (op2 leD (op1 lenD (bw 7)) (bw 1)))) (seqS (setS 6 (sumM [7] (itM (bw 5)) (nmT 7) (yesT) (op2 mulD (op2 mulD (kk (.int 2)) (bw 2)) (op1 maxDD (bw 7)))))
 (ifS (orT (asB (op2 isN2 (bw 3) (kk .non))) (asB (op2 ltD (bw 6) (bw 3)))) (setS 3 (vr 6)) (skipS))) (skipS))
def b_least_hoist : SM := seqS (ifS (asB (op2 gtD (op1 lenD (bw 0)) (kk (.int 6)))) (raS 1) (skipS))
 (seqS (setS 3 (kk .non))
 (seqS (forM (itM (callM fM_partings 1 (consM (op1 lenD (bw 0)) (nilM)))) (nmT 4)
 (b_least_hoist_1))
 (rtS (ifM (asB (op2 isN2 (bw 3) (kk .non))) (kk (.int 0)) (vr 3)))))
def fM_least_hoist : FM := runM 9 b_least_hoist
theorem ok_least_hoist {f : Addr} {fd : FuncData} {c_least_hoist P_least_hoist : Addr} (F : FunC K "least_hoist" "least_hoist" st_least_hoist f fd (.ref c_least_hoist)) (hb : Bn mg) (hG : ∀ pd, G.tk pd 0 = pd.map V.ref) (k_partings : Kn P w K mg base G "partings" 1 1 fM_partings) (x_TooLarge : OwnX K mg "TooLarge" (G.cls 1)) (tb_least_hoist : LamX.TabB base mg c_least_hoist P_least_hoist) (fr_least_hoist : FreeT G P_least_hoist) : FnOk P w K mg base (L2.CX P w) 3 f fd ["levels", "room", "step"] (spM G 3 fM_least_hoist) :=
  mkFn F sc_least_hoist rfl (by decide) fun A outer sh H B hB hz hr => (
 s_cons (s_if (tGt (m_b (eLen hb (m_bw (pv 0)))) (m_b (m_int pe_int))) (s_one (sRaise (n := 1) rfl (by rw [hB.cls]; exact x_TooLarge) takesF)) (s_nil))
 (s_cons (s_set (ps_set (i := 3) sc_least_hoist.nd rfl (Or.inl rfl) (m_non pe_non)))
 (s_cons (s_for ownF rfl (w_seq (m_call k_partings hB hr (by decide) (by rfl) passF (a_cons (eLen hb (m_bw (pv 0))) (a_nil)))) (g_nm (pg_name (i := 4) sc_least_hoist.nd rfl (Or.inr rfl)))
 (s_cons (sSetLc (i := 5) rfl sc_least_hoist.nd rfl rfl rfl (i_b (w_rng1 (pi_range1 (by rfl) hb.range (pa_cons (m_b (eAdd (m_b (eMaxA rfl hr hb (m_b (eAdd (m_b (m_tup (a_cons (eNeg (m_b (m_int pe_int))) (a_nil)))) (m_bw (pv 4)))))) (m_b (m_int pe_int)))) pa_nil)))) (blkOk_by (own := [("run", 7)]) (by kernel_rfl)) (by decide) (fun _ _ _ _ _ _ => g_nm (pg_name (i := 7) sc_least_hoist.nd rfl (Or.inr rfl))) (fun _ _ _ _ _ _ => t_nil) (fun _ _ _ _ _ _ => m_frz (f_lc rfl sc_least_hoist.nd (i_b (w_rng1 (pi_range1 (by rfl) hb.range (pa_cons (m_b (eLen hb (m_bw (pv 0)))) pa_nil)))) (blkOk_by (own := [("k", 8)]) (by kernel_rfl)) (by decide) (fun _ _ _ _ _ _ => g_nm (pg_name (i := 8) sc_least_hoist.nd rfl (Or.inl rfl))) (fun _ _ _ _ _ _ => t_one (tEq hr (m_b (eIx (m_bw (pv 4)) (m_bw (pv 8)))) (m_bw (pv 7)))) (fun _ _ _ _ _ _ => eIx (m_bw (pv 0)) (m_bw (pv 8))))))
 (s_one (s_if (m_tval (m_all hr hb (fr_least_hoist.of hB) (by decide) (gm_fl hr (genEv hB tb_least_hoist fr_least_hoist rfl dot_least_hoist sc_least_hoist.nd rfl) (blkOk_by (own := [("run", 7)]) (by kernel_rfl)) (by decide) (by rfl) (by rfl) (w_seqB (m_bw (pv 5))) (fun _ => rfl) (fun _ _ _ _ _ _ _ => g_nm (pg_name (i := 7) sc_least_hoist.nd rfl (Or.inl rfl))) (fun _ _ _ _ _ _ _ => t_nil) (fun _ _ _ _ _ _ _ => eLe (m_b (eLen hb (m_bw (pv 7)))) (m_bw (pv 1)))))) (s_cons (s_set (ps_set (i := 6) sc_least_hoist.nd rfl (Or.inl rfl) (m_sumG hr hb (fr_least_hoist.of hB) (by decide) (gm_fl hr (genEv hB tb_least_hoist fr_least_hoist rfl dot_least_hoist sc_least_hoist.nd rfl) (blkOk_by (own := [("run", 7)]) (by kernel_rfl)) (by decide) (by rfl) (by rfl) (w_seqB (m_bw (pv 5))) (fun _ => rfl) (fun _ _ _ _ _ _ _ => g_nm (pg_name (i := 7) sc_least_hoist.nd rfl (Or.inl rfl))) (fun _ _ _ _ _ _ _ => t_nil) (fun _ _ _ _ _ _ _ => eMul (m_b (eMul (m_b (m_int pe_int)) (m_bw (pv 2)))) (m_b (eMaxA rfl (room_gen hr _) hb (m_bw (pv 7)))))))))
 (s_one (s_if ((w_or (tIsN (m_bw (pv 3)) (m_b (m_non pe_non))) (w_or1 (tLt (m_bw (pv 6)) (m_bw (pv 3))))).pt) (s_one (s_set (ps_set (i := 3) sc_least_hoist.nd rfl (Or.inl rfl) (m_vr (pv 6))))) (s_nil)))) (s_nil)))))
 (s_one (s_ret (m_if (tIsN (m_bw (pv 3)) (m_b (m_non pe_non))) (m_int pe_int) (m_vr (pv 3))))))))
abbrev st_shunted : Stmt := top 15
theorem sc_shunted : FnScope ["wagons", "sidings", "ends", "fit", "one", "k", "last"] ["wagons", "sidings"] (defScope st_shunted) := ⟨rfl, rfl, rfl, by decide +kernel, rfl, by decide +kernel, by decide +kernel⟩
def L_shunted : Nat → Nat → Option Str := fun _ _ => some "shunted.<locals>.<lambda>"
def b_shunted_1 : SM := seqS (setS 3 (frz (lcM [5, 6] (enumM (bw 2)) (tupT (consT (nmT 5) (consT (nmT 6) (nilT)))) (asB (op2 ltD (bw 6) (bw 4))) (vr 5))))
 (ifS (asB (op2 eqD (bw 3) (frz (lstF (nilM))))) (appS 2 (vr 4)) (setIxS 2 (keyM 5 (bw 3) (op2 ixD (bw 2) (bw 5))) (vr 4)))
def b_shunted : SM := seqS (ownS 2 (lstF (nilM)))
 (seqS (forM (itM (vr 0)) (nmT 4)
 (b_shunted_1))
 (seqS (ifS (asB (op2 gtD (op1 lenD (bw 2)) (bw 1))) (raS 2) (skipS))
 (rtS (op1 lenD (bw 2)))))
def fM_shunted : FM := runM 7 b_shunted
theorem ok_shunted {f : Addr} {fd : FuncData} {c_shunted P_shunted : Addr} (F : FunC K "shunted" "shunted" st_shunted f fd (.ref c_shunted)) (hb : Bn mg) (hG : ∀ pd, G.tk pd 0 = pd.map V.ref) (x_NoWay : OwnX K mg "NoWay" (G.cls 2)) (tb_shunted : LamX.TabB base mg c_shunted P_shunted) (lt_shunted : LamT G P_shunted L_shunted) : FnOk P w K mg base (L2.CX P w) 3 f fd ["wagons", "sidings"] (spM G 2 fM_shunted) :=
  mkFn F sc_shunted rfl (by decide) fun A outer sh H B hB hz hr => (
 s_cons (s_own (ps_set (i := 2) sc_shunted.nd rfl (Or.inr rfl) (f_lst (a_nil))))
 (s_cons (s_for ownF rfl (w_seq (m_vr (pv 0))) (g_nm (pg_name (i := 4) sc_shunted.nd rfl (Or.inr rfl)))
 (s_cons (sSetLc (i := 3) rfl sc_shunted.nd rfl rfl rfl (w_enumB (pi_enumA (by rfl) hb.enumerate (m_bw (pv 2)))) (blkOk_by (own := [("k", 5), ("last", 6)]) (by kernel_rfl)) (by decide) (fun _ _ _ _ _ _ => g_tup rfl (gs_cons (g_nm (pg_name (i := 5) sc_shunted.nd rfl (Or.inl rfl))) (gs_cons (g_nm (pg_name (i := 6) sc_shunted.nd rfl (Or.inl rfl))) (gs_nil))) (len_cons (len_cons len_nil))) (fun _ _ _ _ _ _ => t_one (tLt (m_bw (pv 6)) (m_bw (pv 4)))) (fun _ _ _ _ _ _ => m_vr (pv 5)))
 (s_one (s_if (tEq hr (m_bw (pv 3)) (m_b (m_frz (f_lst (a_nil))))) (s_one (sApp (pv 2) (m_vr (pv 4)))) (s_one (s_setIx (ps_asg (m_vr (pv 4)) (pg_sub (pv 2) (m_maxKey (ix := 5) hB hb (lamEv hB tb_shunted lt_shunted (by rfl)) hr (m_bw (pv 3)) (by rfl) (by rfl) rfl sc_shunted.nd (fun s H f c' B hB => (eIx (m_bw (pv 2)) (m_bw (pv 5))))) set_list))))))))
 (s_cons (s_if (tGt (m_b (eLen hb (m_bw (pv 2)))) (m_bw (pv 1))) (s_one (sRaise (n := 2) rfl (by rw [hB.cls]; exact x_NoWay) takesF)) (s_nil))
 (s_one (s_ret (eLen hb (m_bw (pv 2))))))))
abbrev st_check_gains : Stmt := top 18
theorem sc_check_gains : FnScope ["gains", "row"] ["gains"] (defScope st_check_gains) := ⟨rfl, rfl, rfl, by decide +kernel, rfl, by decide +kernel, by decide +kernel⟩
theorem dot_check_gains : (".0" : Str) ∉ (["gains", "row"] : List Str) := by decide
def b_check_gains : SM := ifS (orT (asB (op2 eqD (op1 lenD (bw 0)) (kk (.int 0)))) (orT (asB (seekM true [1] (itM (bw 0)) (nmT 1) (yesT) (op2 neD (op1 lenD (bw 1)) (op1 lenD (op2 ixD (bw 0) (kk (.int 0))))))) (asB (op2 eqD (op1 lenD (op2 ixD (bw 0) (kk (.int 0)))) (kk (.int 0)))))) (raS 0) (skipS)
def fM_check_gains : FM := runM 2 b_check_gains
theorem ok_check_gains {f : Addr} {fd : FuncData} {c_check_gains P_check_gains : Addr} (F : FunC K "check_gains" "check_gains" st_check_gains f fd (.ref c_check_gains)) (hb : Bn mg) (hG : ∀ pd, G.tk pd 0 = pd.map V.ref) (x_BadBed : OwnX K mg "BadBed" (G.cls 0)) (tb_check_gains : LamX.TabB base mg c_check_gains P_check_gains) (fr_check_gains : FreeT G P_check_gains) : FnOk P w K mg base (L2.CX P w) 2 f fd ["gains"] (spM G 1 fM_check_gains) :=
  mkFn F sc_check_gains rfl (by decide) fun A outer sh H B hB hz hr => (
 s_one (s_if ((w_or (tEq hr (m_b (eLen hb (m_bw (pv 0)))) (m_b (m_int pe_int))) (w_or (m_tval (m_any hr hb (fr_check_gains.of hB) (by decide) (gm_fl hr (genEv hB tb_check_gains fr_check_gains rfl dot_check_gains sc_check_gains.nd rfl) (blkOk_by (own := [("row", 1)]) (by kernel_rfl)) (by decide) (by rfl) (by rfl) (w_seqB (m_bw (pv 0))) (fun _ => rfl) (fun _ _ _ _ _ _ _ => g_nm (pg_name (i := 1) sc_check_gains.nd rfl (Or.inl rfl))) (fun _ _ _ _ _ _ _ => t_nil) (fun _ _ _ _ _ _ _ => eNe (room_gen hr _) (m_b (eLen hb (m_bw (pv 1)))) (m_b (eLen hb (m_b (eIx (m_bw (pv 0)) (m_b (m_int pe_int)))))))))) (w_or1 (tEq hr (m_b (eLen hb (m_b (eIx (m_bw (pv 0)) (m_b (m_int pe_int)))))) (m_b (m_int pe_int)))))).pt) (s_one (sRaise (n := 0) rfl (by rw [hB.cls]; exact x_BadBed) takesF)) (s_nil)))
abbrev st_cells_of : Stmt := top 19
theorem sc_cells_of : FnScope ["depths", "x", "depth", "y"] ["depths"] (defScope st_cells_of) := ⟨rfl, rfl, rfl, by decide +kernel, rfl, by decide +kernel, by decide +kernel⟩
def b_cells_of : SM := rtS (op1 tupOf (frz (opF1 (sortD false) (frz (lc2M [1, 2, 3] [3] (enumM (bw 0)) (tupT (consT (nmT 1) (consT (nmT 2) (nilT)))) (yesT) (rng1M (bw 2)) (nmT 3) (yesT) (tupM (consM (vr 3) (consM (vr 1) (nilM)))))))))
def fM_cells_of : FM := runM 4 b_cells_of
theorem ok_cells_of {f : Addr} {fd : FuncData} {cv : Value} (F : FunC K "cells_of" "cells_of" st_cells_of f fd cv) (hb : Bn mg) (hG : ∀ pd, G.tk pd 0 = pd.map V.ref) : FnOk P w K mg base (L2.CX P w) 1 f fd ["depths"] (spM G 1 fM_cells_of) :=
  mkFn F sc_cells_of rfl (by decide) fun A outer sh H B hB hz hr => (
 s_one (s_ret (eTuple hb (m_b (m_frz (fSorted hr hb (m_b (m_frz (f_lc2 (vs1 := [3]) rfl sc_cells_of.nd (w_enumB (pi_enumA (by rfl) hb.enumerate (m_bw (pv 0)))) (blkOk_by (own := [("x", 1), ("depth", 2), ("y", 3)]) (by kernel_rfl)) (by decide) (by decide) (by decide) (fun _ _ _ _ _ _ => g_tup rfl (gs_cons (g_nm (pg_name (i := 1) sc_cells_of.nd rfl (Or.inl rfl))) (gs_cons (g_nm (pg_name (i := 2) sc_cells_of.nd rfl (Or.inl rfl))) (gs_nil))) (len_cons (len_cons len_nil))) (fun _ _ _ _ _ _ => t_nil) (fun _ _ _ _ _ _ => w_rng1 (pi_range1 (by rfl) hb.range (pa_cons (m_bw (pv 2)) pa_nil))) (fun _ _ _ _ _ _ => g_nm (pg_name (i := 3) sc_cells_of.nd rfl (Or.inl rfl))) (fun _ _ _ _ _ _ => t_nil) (fun _ _ _ _ _ _ => m_tup (a_cons (m_vr (pv 3)) (a_cons (m_vr (pv 1)) (a_nil)))))))))))))
abbrev st_look_pit : Stmt := top 20
theorem sc_look_pit : FnScope ["gains", "depths", "whole", "depth", "x", "y"] ["gains", "depths", "whole"] (defScope st_look_pit) := ⟨rfl, rfl, rfl, by decide +kernel, rfl, by decide +kernel, by decide +kernel⟩
theorem dot_look_pit : (".0" : Str) ∉ (["gains", "depths", "whole", "depth", "x", "y"] : List Str) := by decide
def b_look_pit_1 : SM := ifS (orT (notT (asB (chM leD leD (kk (.int 0)) (bw 3) (op1 lenD (bw 0))))) (andT (asB (op2 gtD (bw 4) (kk (.int 0)))) (asB (op2 gtD (op1 absD (op2 subD (bw 3) (op2 ixD (bw 1) (op2 subD (bw 4) (kk (.int 1)))))) (kk (.int 1)))))) (raVS (vr 4) 3) (skipS)
def b_look_pit : SM := seqS (exS (callM fM_check_gains 1 (consM (vr 0) (nilM))))
 (seqS (ifS (asB (op2 neD (op1 lenD (bw 1)) (op1 lenD (op2 ixD (bw 0) (kk (.int 0)))))) (raVS (kk (.int 0)) 3) (skipS))
 (seqS (forM (enumM (vr 1)) (tupT (consT (nmT 4) (consT (nmT 3) (nilT))))
 (b_look_pit_1))
 (ifS (asB (op2 neD (sumM [5, 4] (itM (callM fM_cells_of 1 (consM (vr 1) (nilM)))) (tupT (consT (nmT 5) (consT (nmT 4) (nilT)))) (yesT) (op2 ixD (op2 ixD (bw 0) (bw 5)) (bw 4))) (bw 2))) (raVS (op1 lenD (bw 1)) 3) (skipS))))
def fM_look_pit : FM := runM 6 b_look_pit
theorem ok_look_pit {f : Addr} {fd : FuncData} {c_look_pit P_look_pit : Addr} (F : FunC K "look_pit" "look_pit" st_look_pit f fd (.ref c_look_pit)) (hb : Bn mg) (hG : ∀ pd, G.tk pd 0 = pd.map V.ref) (k_check_gains : Kn P w K mg base G "check_gains" 2 1 fM_check_gains) (k_cells_of : Kn P w K mg base G "cells_of" 1 1 fM_cells_of) (tb_look_pit : LamX.TabB base mg c_look_pit P_look_pit) (fr_look_pit : FreeT G P_look_pit) {fBP : Addr} (bp_ok : BpOk P K mg (G.cls 3) fBP) : FnOk P w K mg base (L2.CX P w) 4 f fd ["gains", "depths", "whole"] (spM G 3 fM_look_pit) :=
  mkFn F sc_look_pit rfl (by decide) fun A outer sh H B hB hz hr => (
 s_cons (s_expr (m_call k_check_gains hB hr (by decide) (by rfl) passF (a_cons (m_vr (pv 0)) (a_nil))))
 (s_cons (s_if (tNe hr (m_b (eLen hb (m_bw (pv 1)))) (m_b (eLen hb (m_b (eIx (m_bw (pv 0)) (m_b (m_int pe_int))))))) (s_one (s_raiseBp (n := 3) rfl (by rw [hB.cls]; exact bp_ok) takesF hr (m_int pe_int))) (s_nil))
 (s_cons (s_for ownF rfl (w_enum (pi_enumA (by rfl) hb.enumerate (m_vr (pv 1)))) (g_tup rfl (gs_cons (g_nm (pg_name (i := 4) sc_look_pit.nd rfl (Or.inl rfl))) (gs_cons (g_nm (pg_name (i := 3) sc_look_pit.nd rfl (Or.inl rfl))) (gs_nil))) (len_cons (len_cons len_nil)))
 (s_one (s_if ((w_or (m_tnot (tCh sim_le sim_le op_le op_le (m_b (m_int pe_int)) (m_bw (pv 3)) (m_b (eLen hb (m_bw (pv 0)))))) (w_or1 ((w_and (tGt (m_bw (pv 4)) (m_b (m_int pe_int))) (w_and1 (tGt (m_b (eAbs hb (m_b (eSub (m_bw (pv 3)) (m_b (eIx (m_bw (pv 1)) (m_b (eSub (m_bw (pv 4)) (m_b (m_int pe_int)))))))))) (m_b (m_int pe_int))))).pt))).pt) (s_one (s_raiseBp (n := 3) rfl (by rw [hB.cls]; exact bp_ok) takesF hr (m_vr (pv 4)))) (s_nil))))
 (s_one (s_if (tNe hr (m_b (m_sumG hr hb (fr_look_pit.of hB) (by decide) (gm_fl hr (genEv hB tb_look_pit fr_look_pit rfl dot_look_pit sc_look_pit.nd rfl) (blkOk_by (own := [("y", 5), ("x", 4)]) (by kernel_rfl)) (by decide) (by rfl) (by rfl) (w_seqB (m_b (m_call k_cells_of hB hr (by decide) (by rfl) passF (a_cons (m_vr (pv 1)) (a_nil))))) (fun _ => rfl) (fun _ _ _ _ _ _ _ => g_tup rfl (gs_cons (g_nm (pg_name (i := 5) sc_look_pit.nd rfl (Or.inl rfl))) (gs_cons (g_nm (pg_name (i := 4) sc_look_pit.nd rfl (Or.inl rfl))) (gs_nil))) (len_cons (len_cons len_nil))) (fun _ _ _ _ _ _ _ => t_nil) (fun _ _ _ _ _ _ _ => eIx (m_b (eIx (m_bw (pv 0)) (m_bw (pv 5)))) (m_bw (pv 4)))))) (m_bw (pv 2))) (s_one (s_raiseBp (n := 3) rfl (by rw [hB.cls]; exact bp_ok) takesF hr (eLen hb (m_bw (pv 1))))) (s_nil))))))
abbrev st_n_law_dice : Stmt := top 25
theorem sc_n_law_dice : FnScope ["cell"] ["cell"] (defScope st_n_law_dice) := ⟨rfl, rfl, rfl, by decide +kernel, rfl, by decide +kernel, by decide +kernel⟩
theorem ok_n_law_dice {f : Addr} {fd : FuncData} {cv : Value} (F : FunC K "_law_dice" "_law_dice" st_n_law_dice f fd cv) (hb : Bn mg) (hG : ∀ pd, G.tk pd 0 = pd.map V.ref) : FnOk P w K mg base (L2.CX P w) 1 f fd ["cell"] (spM G 1 fM_n_law_dice) :=
  mkFn F sc_n_law_dice rfl (by decide) fun A outer sh H B hB hz hr => (
 s_cons (s_if (tCh sim_lt sim_lt op_lt op_lt (m_b (eSub (m_b (m_int pe_int)) (m_b (m_int pe_int)))) (m_bw (pv 0)) (m_b (m_int pe_int))) (s_one (s_ret (m_frz (f_lst (a_cons (eAbs hb (m_bw (pv 0))) (a_cons (m_int pe_int) (a_cons (m_int pe_int) (a_nil)))))))) (s_nil))
 (s_one (s_ret (m_frz (f_lst (a_cons (m_vr (pv 0)) (a_cons (eAdd (m_b (m_int pe_int)) (m_b (eMod (m_b (eInt hb (m_bw (pv 0)))) (m_b (m_int pe_int))))) (a_cons (eInt hb (m_b (eGe (m_bw (pv 0)) (m_b (ePow (m_b (m_int pe_int)) (m_b (m_int pe_int))))))) (a_nil)))))))))
abbrev st_n_law_roll : Stmt := top 26
theorem sc_n_law_roll : FnScope ["dice", "many", "found"] ["dice", "many"] (defScope st_n_law_roll) := ⟨rfl, rfl, rfl, by decide +kernel, rfl, by decide +kernel, by decide +kernel⟩
theorem ok_n_law_roll {f : Addr} {fd : FuncData} {cv : Value} (F : FunC K "_law_roll" "_law_roll" st_n_law_roll f fd cv) (hb : Bn mg) (hG : ∀ pd, G.tk pd 0 = pd.map V.ref) : FnOk P w K mg base (L2.CX P w) 1 f fd ["dice", "many"] (spM G 2 fM_n_law_roll) :=
  mkFn F sc_n_law_roll rfl (by decide) fun A outer sh H B hB hz hr => (
 s_cons (s_if ((w_or (tEq hr (m_b (m_dice (hB.tok hG) (pv 0) pe_int)) (m_b (m_int pe_int))) (w_or1 ((w_and (tEq hr (m_b (m_dice (hB.tok hG) (pv 0) pe_int)) (m_b (m_int pe_int))) (w_and1 (tGt (m_b (m_dice (hB.tok hG) (pv 0) pe_int)) (m_b (m_int pe_int))))).pt))).pt) (s_cons (s_set (ps_set (i := 2) sc_n_law_roll.nd rfl (Or.inl rfl) (eMod (m_b (eInt hb (m_b (m_dice (hB.tok hG) (pv 0) pe_int)))) (m_bw (pv 1)))))
 (s_cons (s_dice (hB.tok hG) (ps_asg (eDiv (m_b (m_dice (hB.tok hG) (pv 0) pe_int)) (m_bw (pv 1))) (pg_sub (pv 0) pe_int set_list)))
 (s_one (s_ret (m_vr (pv 2)))))) (s_nil))
 (s_cons (s_dice (hB.tok hG) (ps_asg (m_int pe_int) (pg_sub (pv 0) pe_int set_list)))
 (s_cons (s_dice (hB.tok hG) (ps_asg (eMod (m_b (eInt hb (m_b (eAdd (m_b (eAdd (m_b (eMul (m_b (m_dice (hB.tok hG) (pv 0) pe_int)) (m_b (m_int pe_int)))) (m_b (eMul (m_b (m_dice (hB.tok hG) (pv 0) pe_int)) (m_b (m_int pe_int)))))) (m_b (m_int pe_int)))))) (m_b (m_int pe_int))) (pg_sub (pv 0) pe_int set_list)))
 (s_cons (s_dice (hB.tok hG) (ps_asg (eAdd (m_b (m_dice (hB.tok hG) (pv 0) pe_int)) (m_b (m_int pe_int))) (pg_sub (pv 0) pe_int set_list)))
 (s_one (s_ret (eMod (m_b (eInt hb (m_b (eAdd (m_b (eDiv (m_b (m_dice (hB.tok hG) (pv 0) pe_int)) (m_b (m_int pe_int)))) (m_b (m_dice (hB.tok hG) (pv 0) pe_int)))))) (m_bw (pv 1)))))))))
abbrev st_n_law_rounds : Stmt := top 27
theorem sc_n_law_rounds : FnScope ["script", "most", "cells", "cell"] ["script", "most"] (defScope st_n_law_rounds) := ⟨rfl, rfl, rfl, by decide +kernel, rfl, by decide +kernel, by decide +kernel⟩
theorem ok_n_law_rounds {f : Addr} {fd : FuncData} {cv : Value} (F : FunC K "_law_rounds" "_law_rounds" st_n_law_rounds f fd cv) (hb : Bn mg) (hG : ∀ pd, G.tk pd 0 = pd.map V.ref) (k_n_law_dice : Kn P w K mg base G "_law_dice" 1 1 fM_n_law_dice) : FnOk P w K mg base (L2.CX P w) 2 f fd ["script", "most"] (spRounds K G.T) :=
  rounds_ok F sc_n_law_rounds rfl rfl fun A outer sh H B hB hz hr => (pss_cons (ps_set (i := 2) sc_n_law_rounds.nd rfl (Or.inl rfl) (pe_slice sl_list (pv 0) po_none (po_some (pv 1))))
 (s_cons (s_if (tEq hr (m_bw (pv 2)) (m_b (m_frz (f_lst (a_nil))))) (s_one (s_set (ps_set (i := 2) sc_n_law_rounds.nd rfl (Or.inl rfl) (m_frz (f_lst (a_cons (m_int pe_int) (a_nil))))))) (s_nil))
 (s_one (s_ret (m_frz (f_lc rfl sc_n_law_rounds.nd (w_seqB (m_bw (pv 2))) (blkOk_by (own := [("cell", 3)]) (by kernel_rfl)) (by decide) (fun _ _ _ _ _ _ => g_nm (pg_name (i := 3) sc_n_law_rounds.nd rfl (Or.inl rfl))) (fun _ _ _ _ _ _ => t_nil) (fun _ _ _ _ _ _ => m_call k_n_law_dice (hB.blk _) hr (by decide) (by rfl) passL (a_cons (m_vr (pv 3)) (a_nil)))))))))
abbrev st_n_law_told : Stmt := top 28
theorem sc_n_law_told : FnScope ["what", "e", "some"] ["what"] (defScope st_n_law_told) := ⟨rfl, rfl, rfl, by decide +kernel, rfl, by decide +kernel, by decide +kernel⟩
abbrev ci20 (k : Nat) : Nat := [0, 2, 3, 1, 4].getD k 0
theorem ok_n_law_told {f QFa : Addr} {fd : FuncData} {cv : Value} (F : FunC K "_law_told" "_law_told" st_n_law_told f fd cv) (hb : Bn mg) (hm : mg "_law_told" = some (.ref f)) (hbd : Binds K fd ["what"] []) (xm_QF : mg "QuarryFault" = some (.ref QFa))
    (xm_BadBed : mg "BadBed" = some (.ref (G.cls 0))) (xm_NoWay : mg "NoWay" = some (.ref (G.cls 2))) (xm_BadPaper : mg "BadPaper" = some (.ref (G.cls 3))) (xm_TooLarge : mg "TooLarge" = some (.ref (G.cls 1))) (xm_BadDeed : mg "BadDeed" = some (.ref (G.cls 4))) (z_VE : mg "ValueError" = none) :
    ToldQ P w K mg base "_law_told" (.ref QFa) [.ref (G.cls 0), .ref (G.cls 2), .ref (G.cls 3), .ref (G.cls 1)] [.ref (G.cls 4), .type "ValueError"] := by
  refine toldqFn F sc_n_law_told hm hbd rfl (.inl rfl) rfl rfl (fun X q e1 e2 e3 e4 e5 => ?_)
  subst e1 e2 e3 e4 e5
  refine toldq_gives (by decide) rfl (fun _ => rfl) rfl rfl (fun _ _ _ _ => rfl) (fun _ _ _ _ => ⟨rfl, by decide, .inl xm_QF⟩) (fun A outer s H a' oe D d pn b1 b2 b3 b4 b5 b6 hD hz hf => ?_)
  have g : ∀ {xx : Str} {cl : Addr} {p : Pos}, Gl ((cxOf C8.CX0 X.prog X.w X.K X.mg X.base ["what", "e", "some"] "_law_told" (defScope st_n_law_told) f cv A outer s H C8.E0).nox.suite a' ((a', oe) :: pn)) xx → X.mg xx = some (.ref cl) → (xx == ("__debug__" : Str)) = false →
      PE ((cxOf C8.CX0 X.prog X.w X.K X.mg X.base ["what", "e", "some"] "_law_told" (defScope st_n_law_told) f cv A outer s H C8.E0).nox.suite a' ((a', oe) :: pn)) (.Name xx p) (tC (.ref cl)) := fun h1 h2 h3 => pe_glob h1 h2 rfl h3
  exact suite20 (X := (cxOf C8.CX0 X.prog X.w X.K X.mg X.base ["what", "e", "some"] "_law_told" (defScope st_n_law_told) f cv A outer s H C8.E0).nox) sc_n_law_told.nd rfl rfl rfl rfl rfl
    (pe_isE hD hz hf hb.isinstance (pe_var rfl (.inl rfl)) (g rfl xm_BadBed rfl) (fun _ h => h))
    (pe_isE hD hz hf hb.isinstance (pe_var rfl (.inl rfl)) (g rfl xm_NoWay rfl) (fun _ h => h))
    (pe_isE hD hz hf hb.isinstance (pe_var rfl (.inl rfl)) (g rfl xm_BadPaper rfl) (fun _ h => h))
    (pe_isE hD hz hf hb.isinstance (pe_var rfl (.inl rfl)) (g rfl xm_TooLarge rfl) (fun _ h => h))
    (pe_isE hD hz hf hb.isinstance (pe_var rfl (.inl rfl)) (g rfl xm_BadDeed rfl) (fun _ h => h))
    (pe_isE hD hz hf hb.isinstance (pe_var rfl (.inl rfl)) (pe_bltn (v := .ty "ValueError") rfl z_VE rfl rfl) (fun _ h => h)) rfl rfl rfl rfl rfl rfl rfl
/-! the yard -/
abbrev st_y0 : Stmt := (clsBody (top 22)).getD 0 (.Pass ⟨0, 0, 0, 0⟩)
abbrev st_y7 : Stmt := (clsBody (top 22)).getD 7 (.Pass ⟨0, 0, 0, 0⟩)
theorem sc_y0 : FnScope ["self", "bed", "room"] ["self", "bed", "room"] (defScope st_y0) := ⟨rfl, rfl, rfl, by decide +kernel, rfl, by decide +kernel, by decide +kernel⟩
theorem ok_y0 {f C : Addr} {fd : FuncData} {cv : Value} (F : FunC K "__init__" "Yard.__init__" st_y0 f fd cv) (k_check_bed : Kn P w K mg base G "check_bed" 4 1 fM_check_bed) (c : Cls K C)
    (n1 : NoAttr K C "bed") (n2 : NoAttr K C "room") (n3 : NoAttr K C "dug") (n4 : NoAttr K C "floor") (n5 : NoAttr K C "stock") (n6 : NoAttr K C "wants") (n7 : NoAttr K C "money") (n8 : NoAttr K C "deeds") (n9 : NoAttr K C "undone") :
    FnOk P w K mg base (L2.CX P w) 5 f fd ["self", "bed", "room"] (spYard G fM_check_bed C) := by
  refine init_ok (u := fun _ _ _ => True) (xc := "") (j := 0) F sc_y0 rfl rfl (fun A outer sh H B hB hr => ps_expr (m_call k_check_bed hB hr (by decide) (by rfl) passF (a_cons (m_vr (pv 1)) a_nil))) (fun A outer sh H E => ?_)
  exact yard_run (tz := .int 0) c n1 n2 n3 n4 n5 n6 n7 n8 n9 (ps_fld (pv 0) (pv 1) rfl) (ps_fld (pv 0) (pv 2) rfl) (ps_fld (pv 0) (pe_tup pa_nil) rfl) (ps_fld (pv 0) pe_dnewK rfl) (ps_fld (pv 0) pe_dnewK rfl) (ps_fld (pv 0) pe_dnewK rfl) (ps_fld (pv 0) pe_int rfl) (ps_fld (pv 0) (pe_lst pa_nil) rfl) (ps_fld (pv 0) (pe_lst pa_nil) rfl)
theorem sc_y7 : FnScope ["self", "number", "before", "good", "grade", "left", "much", "one", "taken"] ["self", "number"] (defScope st_y7) := ⟨rfl, rfl, rfl, by decide +kernel, rfl, by decide +kernel, by decide +kernel⟩
theorem ok_y7 {f C BD : Addr} {fd : FuncData} {cv : Value} (F : FunC K "sell" "Yard.sell" st_y7 f fd cv) (c : Cls K C) (n6 : NoAttr K C "wants") (o : OwnX K mg "BadDeed" BD) : FnOk P w K mg base (L2.CX P w) 1 f fd ["self", "number"] (spSell C BD) :=
  sell_ok (k := 0) (els := []) F sc_y7 rfl rfl rfl (.inr (.inl rfl)) (.inl rfl) (fun _ _ => rfl) c n6 o (fun _ _ _ _ _ => rfl)
instance : Inhabited LamI := ⟨⟨default, .Name "" ⟨0, 0, 0, 0⟩, default, ⟨0, 0, 0, 0⟩⟩⟩
def lamOf : Expr → LamI
  | .Lambda p b s q => ⟨p, b, s, q⟩
  | _ => default
def forBody : Stmt → List Stmt
  | .For _ _ b _ _ => b
  | _ => []
def listElts : Stmt → List Expr
  | .Assign _ (.List es _) _ => es
  | _ => []
abbrev st_law : Stmt := top 29
theorem sc_law : FnScope ["script", "dice", "k", "many", "whats", "yard", "j"] ["script"] (defScope st_law) := ⟨rfl, rfl, rfl, by decide +kernel, rfl, by decide +kernel, by decide +kernel⟩
def L_law : Nat → Nat → Option Str := fun _ _ => some "law.<locals>.<lambda>"
def ls20 : List LamI := (listElts ((forBody ((defBody st_law).getD 0 (.Pass ⟨0, 0, 0, 0⟩))).getD 2 (.Pass ⟨0, 0, 0, 0⟩))).map lamOf
theorem ls20_len : ls20.length = 5 := by rfl
theorem pin_in {X : Cx} : ∀ {ls : List LamI} {fs : List LamF} {i : Nat}, i < ls.length → fs.length = ls.length → lamP X (ls.getD i default) (fs.getD i default) ∈ (ls.zip fs).map fun z => lamP X z.1 z.2
  | [], _, _, h, _ => by cases h
  | l :: ls, [], _, _, h => by simp at h
  | l :: ls, f :: fs, 0, _, _ => by simp
  | l :: ls, f :: fs, i + 1, h, e => by
    have := pin_in (X := X) (ls := ls) (fs := fs) (i := i) (by simpa using h) (by simpa using e)
    simp only [List.zip_cons_cons, List.map_cons, List.getD_cons_succ]
    exact List.mem_cons_of_mem _ this
def b20_0 : EM D := callM fM_check_bed 1 (consM (tupM (consM (tupM (consM (op2 subD (kk (.int 0)) (bw 3)) (nilM))) (nilM))) (nilM))
def b20_1 : EM D := callM fM_shunted 2 (consM (frz (lstF (consM (vr 3) (consM (kk (.int 0)) (nilM))))) (consM (kk (.int 1)) (nilM)))
def b20_2 : EM D := callM fM_look_pit 3 (consM (frz (lstF (consM (frz (lstF (consM (vr 3) (nilM)))) (nilM)))) (consM (tupM (consM (kk (.int 1)) (nilM))) (consM (op2 addD (bw 3) (kk (.int 1))) (nilM))))
def b20_3 : EM D := callM fM_least_hoist 3 (consM (frz (opF2 repF (frz (lstF (consM (vr 3) (nilM)))) (kk (.int 7)))) (consM (kk (.int 1)) (consM (kk (.int 1)) (nilM))))
def bM20 : Nat → EM D
  | 0 => b20_0
  | 1 => b20_1
  | 2 => b20_2
  | _ => b20_3
def b_law_1 : SM := ifS (asB (op2 neD (told20 (op2 ixD (bw 4) (bw 2)) 7 3 5 row20) (op2 addD (frz (lcM [6] (rng1M (kk (.int 5))) (nmT 6) (yesT) (op2 eqD (bw 6) (bw 2)))) (frz (lstF (consM (kk (.bl true)) (nilM))))))) (rtS (kk (.bl false))) (skipS)
def b_law_2 : SM := forM (rng1M (op1 lenD (bw 4))) (nmT 2) b_law_1
def b_lawturn : SM := seqS (setS 3 (op2 addD (kk (.int 1)) (callM fM_n_law_roll 2 (consM (vr 1) (consM (kk (.int 900)) (nilM)))))) (turn20 7 3 5 4 b_law_2)
theorem hL20 : ∀ i, i < 5 → LamX.LamS (defScope st_law) (ls20.getD i default).scope := fun i hi => by
  match i, hi with
  | 0, _ => exact LamX.lamS_by rfl
  | 1, _ => exact LamX.lamS_by rfl
  | 2, _ => exact LamX.lamS_by rfl
  | 3, _ => exact LamX.lamS_by rfl
  | 4, _ => exact LamX.lamS_by rfl
theorem hl20 (l : LamI) (hl : l ∈ ls20) : ∃ i, i < 5 ∧ l = ls20.getD i default := by
  have hl : l ∈ [ls20.getD 0 default, ls20.getD 1 default, ls20.getD 2 default, ls20.getD 3 default, ls20.getD 4 default] := hl
  simp only [List.mem_cons, List.not_mem_nil, or_false] at hl
  rcases hl with e | e | e | e | e
  · exact ⟨0, by decide, e⟩
  · exact ⟨1, by decide, e⟩
  · exact ⟨2, by decide, e⟩
  · exact ⟨3, by decide, e⟩
  · exact ⟨4, by decide, e⟩
theorem par20 : ∀ i, i < 5 → (ls20.getD i default).params = (ls20.getD 0 default).params := fun i hi => by
  match i, hi with
  | 0, _ => rfl
  | 1, _ => rfl
  | 2, _ => rfl
  | 3, _ => rfl
  | 4, _ => rfl
abbrev cvs20 (G : G0) (j : Nat) : Value := ([.ref (G.cls 0), .ref (G.cls 2), .ref (G.cls 3), .ref (G.cls 1), .ref (G.cls 4)] : List Value).getD j .none
theorem ok_law {f C fI fS QFa : Addr} {fd fdI fdS : FuncData} {c_law P_law : Addr} (F : FunC K "law" "law" st_law f fd (.ref c_law)) (hb : Bn mg) (hG : ∀ pd, G.tk pd 0 = pd.map V.ref) (hG1 : ∀ pd i, i ≠ 0 → G.tk pd i = none) (kr : KnR P w K mg base G "_law_rounds" 2)
    (k_n_law_roll : Kn P w K mg base G "_law_roll" 1 2 fM_n_law_roll) (k_check_bed : Kn P w K mg base G "check_bed" 4 1 fM_check_bed) (k_shunted : Kn P w K mg base G "shunted" 3 2 fM_shunted) (k_look_pit : Kn P w K mg base G "look_pit" 4 3 fM_look_pit) (k_least_hoist : Kn P w K mg base G "least_hoist" 3 3 fM_least_hoist)
    (tb_law : LamX.TabB base mg c_law P_law) (lt_law : LamT G P_law L_law)
    (T : ToldQ P w K mg base "_law_told" (.ref QFa) [.ref (G.cls 0), .ref (G.cls 2), .ref (G.cls 3), .ref (G.cls 1)] [.ref (G.cls 4), .type "ValueError"])
    (kk : K20 K (fun k => G.cls (ci20 k)) (cvs20 G) (.type "ValueError") (.ref QFa))
    (M : Mk K C fI) (FI : FnOk P w K mg base (L2.CX P w) 5 fI fdI ["self", "bed", "room"] (spYard G fM_check_bed C)) (bI : Binds K fdI ["self", "bed", "room"] []) (mY : mg "Yard" = some (.ref C))
    (c : Cls K C) (hm : Meth K C "sell" fS) (FS : FnOk P w K mg base (L2.CX P w) 1 fS fdS ["self", "number"] (spSell C (G.cls 4))) (bS : Binds K fdS ["self", "number"] [])
    (hck : ∀ (m : Int) (ω : W3), 1 ≤ m → m ≤ 900 → fM_check_bed [.tup [.tup [.int m]]] ω = .ok .non ω)
    (hex : ∀ i, i < 4 → ∀ (m : Int) (ω : W3), 1 ≤ m → m ≤ 900 → bM20 i (manyF 7 3 m) ω = .exc (ci20 i) ω)
    (ok : TurnOk 7 1 b_lawturn) : FnOk P w K mg base (L2.CX P w) 7 f fd ["script"] (spLaw K G.T) :=
  law_ok F sc_law rfl (by decide) (by decide) hG (fun A outer sh Hq E hr => pss_cons (ps_for ownF rfl (pi_list (m_rounds kr hr (by decide) (by rfl) passF (pa_cons (pv 0) (pa_cons pe_int pa_nil)))) (pg_name (i := 1) sc_law.nd rfl (Or.inl rfl)) (x_s fun B hB hz => (
   s_cons (s_set (ps_set (i := 3) sc_law.nd rfl (Or.inr rfl) (eAdd (m_b (m_int pe_int)) (m_b (m_call k_n_law_roll hB hr (by decide) (by rfl) passF (a_cons (m_vr (pv 1)) (a_cons (m_int pe_int) (a_nil)))))))) (by
     obtain ⟨pd, hg⟩ := hB.g
     have hcls := hB.cls
     refine PSs.imp (pss_cons (ps_set (i := 5) sc_law.nd rfl (Or.inr rfl) (pe_make M FI hr (by rfl) mY bI .nil passF (a_cons (m_tup (a_cons (m_tup (a_cons (m_vr (pv 3)) a_nil)) a_nil)) (a_cons (m_int pe_int) a_nil))))
       (pss_lams (c := c_law) (P := P_law) (L := L_law) (ls := ls20) (i := 4) (t := tLoop B pd C "law.<locals>.<lambda>" b_law_2) tb_law rfl ?_ (by decide) sc_law.nd rfl (Or.inl rfl) rfl (.inr rfl) (fun fs hfs => ?_)))
       (fun D σ H q => i_turn20 hg hcls (hG1 pd) (lt_law.of hB) (by decide) (by decide) hck D σ H q)
     · intro l hl
       obtain ⟨i, hi, rfl⟩ := hl20 l hl
       refine ⟨rfl, by rw [par20 i hi]; rfl, fun y hy e => (hL20 i hi).free y hy e⟩
     · refine ⟨fun pins s σ H Dn I ⟨x, Z, y, hpd, q⟩ => PSs.run (?_ : PSs _ _ (RdS (B.from' (tk20 B.g.tk (fun i => fs.getD i default) x) H Z) b_law_2)) pins s σ H Dn I q⟩
       let X' : Cx := Cx.pnd (cxOf (L2.CX P w) P w K mg base ["script", "dice", "k", "many", "whats", "yard", "j"] "law" (defScope st_law) f (.ref c_law) A outer sh Hq B.E) ((ls20.zip fs).map fun z => lamP (cxOf (L2.CX P w) P w K mg base ["script", "dice", "k", "many", "whats", "yard", "j"] "law" (defScope st_law) f (.ref c_law) A outer sh Hq B.E) z.1 z.2)
       have hT : ∀ {a : EM D} {e : Expr} {p pos : Pos}, PE X' e (RdE (B.from' (tk20 B.g.tk (fun i => fs.getD i default) x) H Z) a) → starEach [e] X'.env = (false, eval e X'.env) :: starEach [] X'.env → PE X' (.Call (.Name "_law_told" p) [e] [] pos) (RdE (B.from' (tk20 B.g.tk (fun i => fs.getD i default) x) H Z) (told20 a 7 3 5 row20)) := fun he hst =>
         m_told20 (X := X') (k := 4) (params := (ls20.getD 0 default).params) (LI := fun i => ls20.getD i default) (LF := fun i => fs.getD i default) (bM := bM20) (cv := cvs20 G) (VE := .type "ValueError") (QF := .ref QFa) T rfl par20 (fun i hi => List.mem_append_left _ (pin_in (by rw [ls20_len]; exact hi) hfs)) hr hL20 (fun i q cl pm cv ctv hi => by
           match i, hi with
           | 0, _ => rfl
           | 1, _ => rfl
           | 2, _ => rfl
           | 3, _ => rfl
           | 4, _ => rfl) (fun i hi A outer s H B hB hz hr => by
           match i, hi with
           | 0, _ => exact m_callL (X := X') k_check_bed hB hr (by decide) (by rfl) (a_cons (m_tup (a_cons (m_tup (a_cons (eSub (m_b (m_int pe_int)) (m_bw (pv 3))) (a_nil))) (a_nil))) (a_nil))
           | 1, _ => exact m_callL (X := X') k_shunted hB hr (by decide) (by rfl) (a_cons (m_frz (f_lst (a_cons (m_vr (pv 3)) (a_cons (m_int pe_int) (a_nil))))) (a_cons (m_int pe_int) (a_nil)))
           | 2, _ => exact m_callL (X := X') k_look_pit hB hr (by decide) (by rfl) (a_cons (m_frz (f_lst (a_cons (m_frz (f_lst (a_cons (m_vr (pv 3)) (a_nil)))) (a_nil)))) (a_cons (m_tup (a_cons (m_int pe_int) (a_nil))) (a_cons (eAdd (m_bw (pv 3)) (m_b (m_int pe_int))) (a_nil))))
           | 3, _ => exact m_callL (X := X') k_least_hoist hB hr (by decide) (by rfl) (a_cons (m_frz (f_op2 simF_rep (pe_op op_rep (m_b (m_frz (f_lst (a_cons (m_vr (pv 3)) (a_nil))))) (m_b (m_int pe_int))))) (a_cons (m_int pe_int) (a_cons (m_int pe_int) (a_nil))))) (fun A outer s H E hr => by
           exact pe_meth (pv 5) c hm FS (hr.mono (by decide)) bS .nil (passLam (X := X')) (pa_cons (pv 3) pa_nil)) hg hcls y hpd kk rfl hex hz he hst
       exact s_one (s_for (ownF (P := P) (w := w) (K := K) (mg := mg) (base := base) (N := ["script", "dice", "k", "many", "whats", "yard", "j"]) (qual := "law") (scope := defScope st_law) (f := f) (cd := .ref c_law) (A := A) (outer := outer) (s := sh) (H := Hq) (E := B.E)) rfl (w_rng1 (pi_range1 (by rfl) hb.range (pa_cons (m_b (eLen hb (m_bw (pv 4)))) pa_nil))) (g_nm (pg_name (i := 2) sc_law.nd rfl (Or.inr rfl)))
         (s_one (s_if (tNe hr (m_b (hT (eIx (m_bw (pv 4)) (m_bw (pv 2))) rfl)) (m_b (eAdd (m_b (m_frz (f_lc rfl sc_law.nd (i_b (w_rng1 (pi_range1 (by rfl) hb.range (pa_cons (m_b (m_int pe_int)) pa_nil)))) (blkOk_by (own := [("j", 6)]) (by kernel_rfl)) (by decide) (fun _ _ _ _ _ _ => g_nm (pg_name (i := 6) sc_law.nd rfl (Or.inl rfl))) (fun _ _ _ _ _ _ => t_nil) (fun _ _ _ _ _ _ => eEq hr (m_bw (pv 6)) (m_bw (pv 2)))))) (m_b (m_frz (f_lst (a_cons (m_bl pe_bl) (a_nil)))))))) (s_one (s_ret (m_bl pe_bl))) (s_nil)))))))) (pss_one (ps_ret pe_bl))) ok
end
def mI (i : Nat) : Int := ((i + 1 : Nat) : Int)
theorem of_map {β : Type} {f : Nat → β} {b : β} {n : Nat} (h : (List.range n).map f = List.replicate n b) {i : Nat} (hi : i < n) : f i = b := by
  have e := congrArg (fun l => l[i]?) h
  simp only [List.getElem?_map, List.getElem?_range hi, Option.map_some, List.getElem?_replicate, hi, if_true] at e
  exact Option.some.inj e
theorem of_mI {p : Int → Prop} (h : ∀ i, i < 900 → p (mI i)) (m : Int) (h1 : 1 ≤ m) (h9 : m ≤ 900) : p m := by
  have := h (m.toNat - 1) (by omega)
  unfold mI at this
  have e : ((m.toNat - 1 + 1 : Nat) : Int) = m := by omega
  rw [e] at this
  exact this
theorem m_ckA_0 (ω : W3) : (List.range 150).map (fun i => fM_check_bed [.tup [.tup [.int (mI (0 + i))]]] ω) = List.replicate 150 (.ok .non ω) := by kernel_rfl
theorem m_ckA_1 (ω : W3) : (List.range 150).map (fun i => fM_check_bed [.tup [.tup [.int (mI (150 + i))]]] ω) = List.replicate 150 (.ok .non ω) := by kernel_rfl
theorem m_ckA_2 (ω : W3) : (List.range 150).map (fun i => fM_check_bed [.tup [.tup [.int (mI (300 + i))]]] ω) = List.replicate 150 (.ok .non ω) := by kernel_rfl
theorem m_ckA_3 (ω : W3) : (List.range 150).map (fun i => fM_check_bed [.tup [.tup [.int (mI (450 + i))]]] ω) = List.replicate 150 (.ok .non ω) := by kernel_rfl
theorem m_ckA_4 (ω : W3) : (List.range 150).map (fun i => fM_check_bed [.tup [.tup [.int (mI (600 + i))]]] ω) = List.replicate 150 (.ok .non ω) := by kernel_rfl
theorem m_ckA_5 (ω : W3) : (List.range 150).map (fun i => fM_check_bed [.tup [.tup [.int (mI (750 + i))]]] ω) = List.replicate 150 (.ok .non ω) := by kernel_rfl
theorem m_ckA (ω : W3) (i : Nat) (hi : i < 900) : fM_check_bed [.tup [.tup [.int (mI i)]]] ω = .ok .non ω := by
  have hd : i = 150 * (i / 150) + i % 150 := by omega
  have hq : i / 150 < 6 := by omega
  have hr : i % 150 < 150 := by omega
  generalize i / 150 = q at hd hq
  generalize i % 150 = r at hd hr
  subst hd
  match q, hq with
  | 0, _ => exact of_map (m_ckA_0 ω) hr
  | 1, _ => exact of_map (m_ckA_1 ω) hr
  | 2, _ => exact of_map (m_ckA_2 ω) hr
  | 3, _ => exact of_map (m_ckA_3 ω) hr
  | 4, _ => exact of_map (m_ckA_4 ω) hr
  | 5, _ => exact of_map (m_ckA_5 ω) hr
theorem m_ck0_0 (ω : W3) : (List.range 150).map (fun i => bM20 0 (manyF 7 3 (mI (0 + i))) ω) = List.replicate 150 (.exc 0 ω) := by kernel_rfl
theorem m_ck0_1 (ω : W3) : (List.range 150).map (fun i => bM20 0 (manyF 7 3 (mI (150 + i))) ω) = List.replicate 150 (.exc 0 ω) := by kernel_rfl
theorem m_ck0_2 (ω : W3) : (List.range 150).map (fun i => bM20 0 (manyF 7 3 (mI (300 + i))) ω) = List.replicate 150 (.exc 0 ω) := by kernel_rfl
theorem m_ck0_3 (ω : W3) : (List.range 150).map (fun i => bM20 0 (manyF 7 3 (mI (450 + i))) ω) = List.replicate 150 (.exc 0 ω) := by kernel_rfl
theorem m_ck0_4 (ω : W3) : (List.range 150).map (fun i => bM20 0 (manyF 7 3 (mI (600 + i))) ω) = List.replicate 150 (.exc 0 ω) := by kernel_rfl
theorem m_ck0_5 (ω : W3) : (List.range 150).map (fun i => bM20 0 (manyF 7 3 (mI (750 + i))) ω) = List.replicate 150 (.exc 0 ω) := by kernel_rfl
theorem m_ck0 (ω : W3) (i : Nat) (hi : i < 900) : bM20 0 (manyF 7 3 (mI i)) ω = .exc 0 ω := by
  have hd : i = 150 * (i / 150) + i % 150 := by omega
  have hq : i / 150 < 6 := by omega
  have hr : i % 150 < 150 := by omega
  generalize i / 150 = q at hd hq
  generalize i % 150 = r at hd hr
  subst hd
  match q, hq with
  | 0, _ => exact of_map (m_ck0_0 ω) hr
  | 1, _ => exact of_map (m_ck0_1 ω) hr
  | 2, _ => exact of_map (m_ck0_2 ω) hr
  | 3, _ => exact of_map (m_ck0_3 ω) hr
  | 4, _ => exact of_map (m_ck0_4 ω) hr
  | 5, _ => exact of_map (m_ck0_5 ω) hr
theorem m_ck1_0 (ω : W3) : (List.range 150).map (fun i => bM20 1 (manyF 7 3 (mI (0 + i))) ω) = List.replicate 150 (.exc 2 ω) := by kernel_rfl
theorem m_ck1_1 (ω : W3) : (List.range 150).map (fun i => bM20 1 (manyF 7 3 (mI (150 + i))) ω) = List.replicate 150 (.exc 2 ω) := by kernel_rfl
theorem m_ck1_2 (ω : W3) : (List.range 150).map (fun i => bM20 1 (manyF 7 3 (mI (300 + i))) ω) = List.replicate 150 (.exc 2 ω) := by kernel_rfl
theorem m_ck1_3 (ω : W3) : (List.range 150).map (fun i => bM20 1 (manyF 7 3 (mI (450 + i))) ω) = List.replicate 150 (.exc 2 ω) := by kernel_rfl
theorem m_ck1_4 (ω : W3) : (List.range 150).map (fun i => bM20 1 (manyF 7 3 (mI (600 + i))) ω) = List.replicate 150 (.exc 2 ω) := by kernel_rfl
theorem m_ck1_5 (ω : W3) : (List.range 150).map (fun i => bM20 1 (manyF 7 3 (mI (750 + i))) ω) = List.replicate 150 (.exc 2 ω) := by kernel_rfl
theorem m_ck1 (ω : W3) (i : Nat) (hi : i < 900) : bM20 1 (manyF 7 3 (mI i)) ω = .exc 2 ω := by
  have hd : i = 150 * (i / 150) + i % 150 := by omega
  have hq : i / 150 < 6 := by omega
  have hr : i % 150 < 150 := by omega
  generalize i / 150 = q at hd hq
  generalize i % 150 = r at hd hr
  subst hd
  match q, hq with
  | 0, _ => exact of_map (m_ck1_0 ω) hr
  | 1, _ => exact of_map (m_ck1_1 ω) hr
  | 2, _ => exact of_map (m_ck1_2 ω) hr
  | 3, _ => exact of_map (m_ck1_3 ω) hr
  | 4, _ => exact of_map (m_ck1_4 ω) hr
  | 5, _ => exact of_map (m_ck1_5 ω) hr
theorem m_ck2_0 (ω : W3) : (List.range 100).map (fun i => bM20 2 (manyF 7 3 (mI (0 + i))) ω) = List.replicate 100 (.exc 3 ω) := by kernel_rfl
theorem m_ck2_1 (ω : W3) : (List.range 100).map (fun i => bM20 2 (manyF 7 3 (mI (100 + i))) ω) = List.replicate 100 (.exc 3 ω) := by kernel_rfl
theorem m_ck2_2 (ω : W3) : (List.range 100).map (fun i => bM20 2 (manyF 7 3 (mI (200 + i))) ω) = List.replicate 100 (.exc 3 ω) := by kernel_rfl
theorem m_ck2_3 (ω : W3) : (List.range 100).map (fun i => bM20 2 (manyF 7 3 (mI (300 + i))) ω) = List.replicate 100 (.exc 3 ω) := by kernel_rfl
theorem m_ck2_4 (ω : W3) : (List.range 100).map (fun i => bM20 2 (manyF 7 3 (mI (400 + i))) ω) = List.replicate 100 (.exc 3 ω) := by kernel_rfl
theorem m_ck2_5 (ω : W3) : (List.range 100).map (fun i => bM20 2 (manyF 7 3 (mI (500 + i))) ω) = List.replicate 100 (.exc 3 ω) := by kernel_rfl
theorem m_ck2_6 (ω : W3) : (List.range 100).map (fun i => bM20 2 (manyF 7 3 (mI (600 + i))) ω) = List.replicate 100 (.exc 3 ω) := by kernel_rfl
theorem m_ck2_7 (ω : W3) : (List.range 100).map (fun i => bM20 2 (manyF 7 3 (mI (700 + i))) ω) = List.replicate 100 (.exc 3 ω) := by kernel_rfl
theorem m_ck2_8 (ω : W3) : (List.range 100).map (fun i => bM20 2 (manyF 7 3 (mI (800 + i))) ω) = List.replicate 100 (.exc 3 ω) := by kernel_rfl
theorem m_ck2 (ω : W3) (i : Nat) (hi : i < 900) : bM20 2 (manyF 7 3 (mI i)) ω = .exc 3 ω := by
  have hd : i = 100 * (i / 100) + i % 100 := by omega
  have hq : i / 100 < 9 := by omega
  have hr : i % 100 < 100 := by omega
  generalize i / 100 = q at hd hq
  generalize i % 100 = r at hd hr
  subst hd
  match q, hq with
  | 0, _ => exact of_map (m_ck2_0 ω) hr
  | 1, _ => exact of_map (m_ck2_1 ω) hr
  | 2, _ => exact of_map (m_ck2_2 ω) hr
  | 3, _ => exact of_map (m_ck2_3 ω) hr
  | 4, _ => exact of_map (m_ck2_4 ω) hr
  | 5, _ => exact of_map (m_ck2_5 ω) hr
  | 6, _ => exact of_map (m_ck2_6 ω) hr
  | 7, _ => exact of_map (m_ck2_7 ω) hr
  | 8, _ => exact of_map (m_ck2_8 ω) hr
theorem m_ck3 (m : Int) (ω : W3) : bM20 3 (manyF 7 3 m) ω = .exc 1 ω := by kernel_rfl
theorem hck20 (m : Int) (ω : W3) (h1 : 1 ≤ m) (h9 : m ≤ 900) : fM_check_bed [.tup [.tup [.int m]]] ω = .ok .non ω :=
  of_mI (p := fun m => fM_check_bed [.tup [.tup [.int m]]] ω = .ok .non ω) (fun i hi => m_ckA ω i hi) m h1 h9
theorem hex20 : ∀ i, i < 4 → ∀ (m : Int) (ω : W3), 1 ≤ m → m ≤ 900 → bM20 i (manyF 7 3 m) ω = .exc (ci20 i) ω := fun i hi m ω h1 h9 => by
  match i, hi with
  | 0, _ => exact of_mI (p := fun m => bM20 0 (manyF 7 3 m) ω = .exc 0 ω) (fun i hi => m_ck0 ω i hi) m h1 h9
  | 1, _ => exact of_mI (p := fun m => bM20 1 (manyF 7 3 m) ω = .exc 2 ω) (fun i hi => m_ck1 ω i hi) m h1 h9
  | 2, _ => exact of_mI (p := fun m => bM20 2 (manyF 7 3 m) ω = .exc 3 ω) (fun i hi => m_ck2 ω i hi) m h1 h9
  | 3, _ => exact m_ck3 m ω
def turnFr (k : Slot) (m : Int) : Fr := [.no, .val (.tok 0), k, .val (.int m), .val toks5, .val (.tok 6), .no]
def lenNx : SO → Option W3
  | .nx ρ ω => if ρ.length = 7 then some ω else none
  | _ => none
theorem m_loop_0 (ω : W3) : (List.range 60).map (fun i => turn20 7 3 5 4 b_law_2 [.no, .val (.tok 0), .no, .val (.int (mI (0 + i))), .no, .no, .no] ω) = List.replicate 60 (.nx (List.replicate 7 .no) ω) := by kernel_rfl
theorem m_loop_1 (ω : W3) : (List.range 60).map (fun i => turn20 7 3 5 4 b_law_2 [.no, .val (.tok 0), .no, .val (.int (mI (60 + i))), .no, .no, .no] ω) = List.replicate 60 (.nx (List.replicate 7 .no) ω) := by kernel_rfl
theorem m_loop_2 (ω : W3) : (List.range 60).map (fun i => turn20 7 3 5 4 b_law_2 [.no, .val (.tok 0), .no, .val (.int (mI (120 + i))), .no, .no, .no] ω) = List.replicate 60 (.nx (List.replicate 7 .no) ω) := by kernel_rfl
theorem m_loop_3 (ω : W3) : (List.range 60).map (fun i => turn20 7 3 5 4 b_law_2 [.no, .val (.tok 0), .no, .val (.int (mI (180 + i))), .no, .no, .no] ω) = List.replicate 60 (.nx (List.replicate 7 .no) ω) := by kernel_rfl
theorem m_loop_4 (ω : W3) : (List.range 60).map (fun i => turn20 7 3 5 4 b_law_2 [.no, .val (.tok 0), .no, .val (.int (mI (240 + i))), .no, .no, .no] ω) = List.replicate 60 (.nx (List.replicate 7 .no) ω) := by kernel_rfl
theorem m_loop_5 (ω : W3) : (List.range 60).map (fun i => turn20 7 3 5 4 b_law_2 [.no, .val (.tok 0), .no, .val (.int (mI (300 + i))), .no, .no, .no] ω) = List.replicate 60 (.nx (List.replicate 7 .no) ω) := by kernel_rfl
theorem m_loop_6 (ω : W3) : (List.range 60).map (fun i => turn20 7 3 5 4 b_law_2 [.no, .val (.tok 0), .no, .val (.int (mI (360 + i))), .no, .no, .no] ω) = List.replicate 60 (.nx (List.replicate 7 .no) ω) := by kernel_rfl
theorem m_loop_7 (ω : W3) : (List.range 60).map (fun i => turn20 7 3 5 4 b_law_2 [.no, .val (.tok 0), .no, .val (.int (mI (420 + i))), .no, .no, .no] ω) = List.replicate 60 (.nx (List.replicate 7 .no) ω) := by kernel_rfl
theorem m_loop_8 (ω : W3) : (List.range 60).map (fun i => turn20 7 3 5 4 b_law_2 [.no, .val (.tok 0), .no, .val (.int (mI (480 + i))), .no, .no, .no] ω) = List.replicate 60 (.nx (List.replicate 7 .no) ω) := by kernel_rfl
theorem m_loop_9 (ω : W3) : (List.range 60).map (fun i => turn20 7 3 5 4 b_law_2 [.no, .val (.tok 0), .no, .val (.int (mI (540 + i))), .no, .no, .no] ω) = List.replicate 60 (.nx (List.replicate 7 .no) ω) := by kernel_rfl
theorem m_loop_10 (ω : W3) : (List.range 60).map (fun i => turn20 7 3 5 4 b_law_2 [.no, .val (.tok 0), .no, .val (.int (mI (600 + i))), .no, .no, .no] ω) = List.replicate 60 (.nx (List.replicate 7 .no) ω) := by kernel_rfl
theorem m_loop_11 (ω : W3) : (List.range 60).map (fun i => turn20 7 3 5 4 b_law_2 [.no, .val (.tok 0), .no, .val (.int (mI (660 + i))), .no, .no, .no] ω) = List.replicate 60 (.nx (List.replicate 7 .no) ω) := by kernel_rfl
theorem m_loop_12 (ω : W3) : (List.range 60).map (fun i => turn20 7 3 5 4 b_law_2 [.no, .val (.tok 0), .no, .val (.int (mI (720 + i))), .no, .no, .no] ω) = List.replicate 60 (.nx (List.replicate 7 .no) ω) := by kernel_rfl
theorem m_loop_13 (ω : W3) : (List.range 60).map (fun i => turn20 7 3 5 4 b_law_2 [.no, .val (.tok 0), .no, .val (.int (mI (780 + i))), .no, .no, .no] ω) = List.replicate 60 (.nx (List.replicate 7 .no) ω) := by kernel_rfl
theorem m_loop_14 (ω : W3) : (List.range 60).map (fun i => turn20 7 3 5 4 b_law_2 [.no, .val (.tok 0), .no, .val (.int (mI (840 + i))), .no, .no, .no] ω) = List.replicate 60 (.nx (List.replicate 7 .no) ω) := by kernel_rfl
theorem m_loop (ω : W3) (i : Nat) (hi : i < 900) : turn20 7 3 5 4 b_law_2 [.no, .val (.tok 0), .no, .val (.int (mI i)), .no, .no, .no] ω = .nx (List.replicate 7 .no) ω := by
  have hd : i = 60 * (i / 60) + i % 60 := by omega
  have hq : i / 60 < 15 := by omega
  have hr : i % 60 < 60 := by omega
  generalize i / 60 = q at hd hq
  generalize i % 60 = r at hd hr
  subst hd
  match q, hq with
  | 0, _ => exact of_map (m_loop_0 ω) hr
  | 1, _ => exact of_map (m_loop_1 ω) hr
  | 2, _ => exact of_map (m_loop_2 ω) hr
  | 3, _ => exact of_map (m_loop_3 ω) hr
  | 4, _ => exact of_map (m_loop_4 ω) hr
  | 5, _ => exact of_map (m_loop_5 ω) hr
  | 6, _ => exact of_map (m_loop_6 ω) hr
  | 7, _ => exact of_map (m_loop_7 ω) hr
  | 8, _ => exact of_map (m_loop_8 ω) hr
  | 9, _ => exact of_map (m_loop_9 ω) hr
  | 10, _ => exact of_map (m_loop_10 ω) hr
  | 11, _ => exact of_map (m_loop_11 ω) hr
  | 12, _ => exact of_map (m_loop_12 ω) hr
  | 13, _ => exact of_map (m_loop_13 ω) hr
  | 14, _ => exact of_map (m_loop_14 ω) hr
theorem turn_ok : TurnOk 7 1 b_lawturn := fun ω => by
  obtain ⟨v, ω1, e1, v0, v1⟩ := roll_ok (i := 1) (m := 900) (ρ := turnF 7 1) (ω := ω) rfl (by decide) (by decide)
  refine .inl ⟨List.replicate 7 .no, ω1, ?_, rfl⟩
  unfold b_lawturn
  have eS : setS 3 (op2 addD (kk (.int 1)) (callM fM_n_law_roll 2 (consM (vr 1) (consM (kk (.int 900)) (nilM))))) (turnF 7 1) ω = .nx [.no, .val (.tok 0), .no, .val (.int (1 + v)), .no, .no, .no] ω1 := by
    unfold setS op2
    simp only [kk, Out.andThen, e1, optM, addD_i, Out.stm]
    rfl
  rw [seqS_nx eS]
  exact of_mI (p := fun m => turn20 7 3 5 4 b_law_2 [.no, .val (.tok 0), .no, .val (.int m), .no, .no, .no] ω1 = .nx (List.replicate 7 .no) ω1) (fun i hi => m_loop ω1 i hi) (1 + v) (by omega) (by omega)

theorem all_mk {q : Program} {l : PySem.W.OpenLaw} {w : World} {K : PySem.W.Frag} {h : Heap} (TA : TabAll q K h) {mg : Str → Option Value} {fa f0 f1 f2 f3 f4 f5 f6 f7 f8 f9 f10 f11 f12 f13 C0 C1 C2 C3 C4 C5 CY fI fS : Addr} (X : K.In h) (GN : h.Ns mainGlobals mg) (hfa : mg "law" = some (.ref fa))
    {od0 an0 od1 an1 od2 an2 od3 an3 od4 an4 od5 an5 od6 an6 od7 an7 od8 an8 od9 an9 od10 an10 od11 an11 od12 an12 od13 an13 : Option Addr} {sl0 sl1 sl2 sl3 sl4 sl5 sl6 sl7 sl8 sl9 sl10 sl11 sl12 sl13 : Array (Option Value)} {oc0 kV0 dc0 pm0 cd0 ct0 oc1 kV1 dc1 pm1 ct1 oc2 kV2 dc2 pm2 cd2 ct2 oc3 kV3 dc3 pm3 cd3 ct3 oc4 kV4 dc4 pm4 ct4 oc5 kV5 dc5 pm5 ct5 oc6 kV6 dc6 pm6 ct6 oc7 kV7 dc7 pm7 cd7 ct7 oc8 kV8 dc8 pm8 ct8 oc9 kV9 dc9 pm9 cd9 ct9 oc10 kV10 dc10 pm10 cd10 ct10 oc11 kV11 dc11 pm11 cd11 ct11 oc12 kV12 dc12 pm12 cd12 ct12 oc13 kV13 dc13 pm13 ct13 : Value} {tc1 tP1 tc4 tP4 tc5 tP5 tc6 tP6 tc8 tP8 tc13 tP13 : Addr} {td1 td4 td5 td6 td8 td13 : DefRec} {te1 te4 te5 te6 te8 te13 : Value} {tdd1 tdd4 tdd5 tdd6 tdd8 tdd13 : Option Addr} {tv1 tv4 tv5 tv6 tv8 tv13 : Array Value} {tsl1 tsl4 tsl5 tsl6 tsl8 tsl13 : Array (Option Value)} {bnm bq bqual : Str} {bN bF bcda bcc : Addr} {bbs bbm : List Value} {bsn : List Str} {bsub : List Value} {bab : Bool} {bcol : Option Bool} {bdd : Option Addr} {bk0 bk1 bk2 bk3 bk5 : Option Value} {boc bkV bdoc bpm bct bccl bcl : Value} {bod ban bcdd bcld : Option Addr} {bosl bccs bcsl : Array (Option Value)} {bvs : Array Value} {bfile : Str} {btf : Tok} {ycd ykV ydc ypm yct yoc scd skV sdc spm sct soc : Value} {yod yan sod san : Option Addr} {ysl ssl : Array (Option Value)}
    (a0 : PySem.W.nsIn K mainGlobals "is_whole" = some (some (.ref f0))) (l0 : K.lookup f0 = some ⟨oc0, od0, .func (PySem.W.fnOf "is_whole" "is_whole" (defArgs st_is_whole) (defBody st_is_whole) (defScope st_is_whole) .none kV0 dc0 pm0 an0 cd0 ct0), sl0⟩) (c0 : PySem.W.codeIn K cd0 "is_whole" = true) (k0 : PySem.W.keepIn K (.ref f0) = true)
    (a1 : PySem.W.nsIn K mainGlobals "is_bed" = some (some (.ref f1))) (l1 : K.lookup f1 = some ⟨oc1, od1, .func (PySem.W.fnOf "is_bed" "is_bed" (defArgs st_is_bed) (defBody st_is_bed) (defScope st_is_bed) .none kV1 dc1 pm1 an1 (.ref tc1) ct1), sl1⟩) (c1 : PySem.W.codeIn K (.ref tc1) "is_bed" = true) (k1 : PySem.W.keepIn K (.ref f1) = true)
    (t1 : K.lookup tc1 = some ⟨te1, tdd1, .fields tv1, tsl1⟩) (tw1 : tv1[11]? = some (.ref tP1)) (u1 : K.lookup tP1 = none)
    (a2 : PySem.W.nsIn K mainGlobals "check_bed" = some (some (.ref f2))) (l2 : K.lookup f2 = some ⟨oc2, od2, .func (PySem.W.fnOf "check_bed" "check_bed" (defArgs st_check_bed) (defBody st_check_bed) (defScope st_check_bed) .none kV2 dc2 pm2 an2 cd2 ct2), sl2⟩) (c2 : PySem.W.codeIn K cd2 "check_bed" = true) (k2 : PySem.W.keepIn K (.ref f2) = true)
    (a3 : PySem.W.nsIn K mainGlobals "partings" = some (some (.ref f3))) (l3 : K.lookup f3 = some ⟨oc3, od3, .func (PySem.W.fnOf "partings" "partings" (defArgs st_partings) (defBody st_partings) (defScope st_partings) .none kV3 dc3 pm3 an3 cd3 ct3), sl3⟩) (c3 : PySem.W.codeIn K cd3 "partings" = true) (k3 : PySem.W.keepIn K (.ref f3) = true)
    (a4 : PySem.W.nsIn K mainGlobals "least_hoist" = some (some (.ref f4))) (l4 : K.lookup f4 = some ⟨oc4, od4, .func (PySem.W.fnOf "least_hoist" "least_hoist" (defArgs st_least_hoist) (defBody st_least_hoist) (defScope st_least_hoist) .none kV4 dc4 pm4 an4 (.ref tc4) ct4), sl4⟩) (c4 : PySem.W.codeIn K (.ref tc4) "least_hoist" = true) (k4 : PySem.W.keepIn K (.ref f4) = true)
    (t4 : K.lookup tc4 = some ⟨te4, tdd4, .fields tv4, tsl4⟩) (tw4 : tv4[11]? = some (.ref tP4)) (u4 : K.lookup tP4 = none)
    (a5 : PySem.W.nsIn K mainGlobals "shunted" = some (some (.ref f5))) (l5 : K.lookup f5 = some ⟨oc5, od5, .func (PySem.W.fnOf "shunted" "shunted" (defArgs st_shunted) (defBody st_shunted) (defScope st_shunted) .none kV5 dc5 pm5 an5 (.ref tc5) ct5), sl5⟩) (c5 : PySem.W.codeIn K (.ref tc5) "shunted" = true) (k5 : PySem.W.keepIn K (.ref f5) = true)
    (t5 : K.lookup tc5 = some ⟨te5, tdd5, .fields tv5, tsl5⟩) (tw5 : tv5[11]? = some (.ref tP5)) (u5 : K.lookup tP5 = none)
    (a6 : PySem.W.nsIn K mainGlobals "check_gains" = some (some (.ref f6))) (l6 : K.lookup f6 = some ⟨oc6, od6, .func (PySem.W.fnOf "check_gains" "check_gains" (defArgs st_check_gains) (defBody st_check_gains) (defScope st_check_gains) .none kV6 dc6 pm6 an6 (.ref tc6) ct6), sl6⟩) (c6 : PySem.W.codeIn K (.ref tc6) "check_gains" = true) (k6 : PySem.W.keepIn K (.ref f6) = true)
    (t6 : K.lookup tc6 = some ⟨te6, tdd6, .fields tv6, tsl6⟩) (tw6 : tv6[11]? = some (.ref tP6)) (u6 : K.lookup tP6 = none)
    (a7 : PySem.W.nsIn K mainGlobals "cells_of" = some (some (.ref f7))) (l7 : K.lookup f7 = some ⟨oc7, od7, .func (PySem.W.fnOf "cells_of" "cells_of" (defArgs st_cells_of) (defBody st_cells_of) (defScope st_cells_of) .none kV7 dc7 pm7 an7 cd7 ct7), sl7⟩) (c7 : PySem.W.codeIn K cd7 "cells_of" = true) (k7 : PySem.W.keepIn K (.ref f7) = true)
    (a8 : PySem.W.nsIn K mainGlobals "look_pit" = some (some (.ref f8))) (l8 : K.lookup f8 = some ⟨oc8, od8, .func (PySem.W.fnOf "look_pit" "look_pit" (defArgs st_look_pit) (defBody st_look_pit) (defScope st_look_pit) .none kV8 dc8 pm8 an8 (.ref tc8) ct8), sl8⟩) (c8 : PySem.W.codeIn K (.ref tc8) "look_pit" = true) (k8 : PySem.W.keepIn K (.ref f8) = true)
    (t8 : K.lookup tc8 = some ⟨te8, tdd8, .fields tv8, tsl8⟩) (tw8 : tv8[11]? = some (.ref tP8)) (u8 : K.lookup tP8 = none)
    (a9 : PySem.W.nsIn K mainGlobals "_law_dice" = some (some (.ref f9))) (l9 : K.lookup f9 = some ⟨oc9, od9, .func (PySem.W.fnOf "_law_dice" "_law_dice" (defArgs st_n_law_dice) (defBody st_n_law_dice) (defScope st_n_law_dice) .none kV9 dc9 pm9 an9 cd9 ct9), sl9⟩) (c9 : PySem.W.codeIn K cd9 "_law_dice" = true) (k9 : PySem.W.keepIn K (.ref f9) = true)
    (a10 : PySem.W.nsIn K mainGlobals "_law_roll" = some (some (.ref f10))) (l10 : K.lookup f10 = some ⟨oc10, od10, .func (PySem.W.fnOf "_law_roll" "_law_roll" (defArgs st_n_law_roll) (defBody st_n_law_roll) (defScope st_n_law_roll) .none kV10 dc10 pm10 an10 cd10 ct10), sl10⟩) (c10 : PySem.W.codeIn K cd10 "_law_roll" = true) (k10 : PySem.W.keepIn K (.ref f10) = true)
    (a11 : PySem.W.nsIn K mainGlobals "_law_rounds" = some (some (.ref f11))) (l11 : K.lookup f11 = some ⟨oc11, od11, .func (PySem.W.fnOf "_law_rounds" "_law_rounds" (defArgs st_n_law_rounds) (defBody st_n_law_rounds) (defScope st_n_law_rounds) .none kV11 dc11 pm11 an11 cd11 ct11), sl11⟩) (c11 : PySem.W.codeIn K cd11 "_law_rounds" = true) (k11 : PySem.W.keepIn K (.ref f11) = true)
    (a12 : PySem.W.nsIn K mainGlobals "_law_told" = some (some (.ref f12))) (l12 : K.lookup f12 = some ⟨oc12, od12, .func (PySem.W.fnOf "_law_told" "_law_told" (defArgs st_n_law_told) (defBody st_n_law_told) (defScope st_n_law_told) .none kV12 dc12 pm12 an12 cd12 ct12), sl12⟩) (c12 : PySem.W.codeIn K cd12 "_law_told" = true) (k12 : PySem.W.keepIn K (.ref f12) = true)
    (a13 : PySem.W.nsIn K mainGlobals "law" = some (some (.ref f13))) (l13 : K.lookup f13 = some ⟨oc13, od13, .func (PySem.W.fnOf "law" "law" (defArgs st_law) (defBody st_law) (defScope st_law) .none kV13 dc13 pm13 an13 (.ref tc13) ct13), sl13⟩) (c13 : PySem.W.codeIn K (.ref tc13) "law" = true) (k13 : PySem.W.keepIn K (.ref f13) = true)
    (t13 : K.lookup tc13 = some ⟨te13, tdd13, .fields tv13, tsl13⟩) (tw13 : tv13[11]? = some (.ref tP13)) (u13 : K.lookup tP13 = none)
    (np5_1 : tP5 ≠ tP1)
    (np5_4 : tP5 ≠ tP4)
    (np5_6 : tP5 ≠ tP6)
    (np5_8 : tP5 ≠ tP8)
    (np5_13 : tP5 ≠ tP13)
    (np13_1 : tP13 ≠ tP1)
    (np13_4 : tP13 ≠ tP4)
    (np13_5 : tP13 ≠ tP5)
    (np13_6 : tP13 ≠ tP6)
    (np13_8 : tP13 ≠ tP8)
    (xg0 : PySem.W.nsIn K mainGlobals "BadBed" = some (some (.ref C0)))
    (xq0 : PySem.W.excIn K C0 [.type "ValueError", .type "Exception", .type "BaseException", .type "object"] "ValueError.__new__" = true) (xk0 : PySem.W.keepIn K (.ref C0) = true) (xb0 : PySem.W.subIn K (.ref C0) (.type "BaseException") = some true) (xt0 : PySem.W.typeIn K (.ref C0) = some (.type "type"))
    (xg1 : PySem.W.nsIn K mainGlobals "TooLarge" = some (some (.ref C1)))
    (xq1 : PySem.W.excIn K C1 [.type "ValueError", .type "Exception", .type "BaseException", .type "object"] "ValueError.__new__" = true) (xk1 : PySem.W.keepIn K (.ref C1) = true) (xb1 : PySem.W.subIn K (.ref C1) (.type "BaseException") = some true) (xt1 : PySem.W.typeIn K (.ref C1) = some (.type "type"))
    (xg2 : PySem.W.nsIn K mainGlobals "NoWay" = some (some (.ref C2)))
    (xq2 : PySem.W.excIn K C2 [.type "ValueError", .type "Exception", .type "BaseException", .type "object"] "ValueError.__new__" = true) (xk2 : PySem.W.keepIn K (.ref C2) = true) (xb2 : PySem.W.subIn K (.ref C2) (.type "BaseException") = some true) (xt2 : PySem.W.typeIn K (.ref C2) = some (.type "type"))
    (xg3 : PySem.W.nsIn K mainGlobals "BadPaper" = some (some (.ref C3)))
    (xg4 : PySem.W.nsIn K mainGlobals "BadDeed" = some (some (.ref C4)))
    (xq4 : PySem.W.excIn K C4 [.type "ValueError", .type "Exception", .type "BaseException", .type "object"] "ValueError.__new__" = true) (xk4 : PySem.W.keepIn K (.ref C4) = true) (xb4 : PySem.W.subIn K (.ref C4) (.type "BaseException") = some true) (xt4 : PySem.W.typeIn K (.ref C4) = some (.type "type"))
    (xg5 : PySem.W.nsIn K mainGlobals "QuarryFault" = some (some (.ref C5)))
    (bp_c : K.lookup C3 = some (excClassObj bnm bq C3 bN bbs bbm true bsn bsub bab bcol bdd bk0 bk1 bk2 bk3 bk5 "ValueError.__new__")) (bp_r : PySem.HandSPX.refsVE bbm = true) (bp_sa : PySem.W.findIn K (.ref C3) "__setattr__" = some (some (.builtin "object.__setattr__"))) (bp_x : PySem.W.subIn K (.ref C3) (.type "BaseException") = some true) (bp_t : PySem.W.typeIn K (.ref C3) = some (.type "type")) (bp_k : PySem.W.keepIn K (.ref C3) = true)
    (bp_sup : PySem.W.nsIn K mainGlobals "super" = some none) (bp_i : PySem.W.findIn K (.ref C3) "__init__" = some (some (.ref bF))) (bp_ti : PySem.W.typeIn K (.ref bF) = some (.type "function")) (bp_no : PySem.W.findIn K (.ref C3) "part" = some none) (bp_si : PySem.W.ks_superIn K C3 C3 "__init__" = some (some (.builtin "ValueError.__init__"))) (bp_sub : PySem.W.subIn K (.ref C3) (.type "ValueError") = some true) (bp_m : PySem.W.mroIn K C3 (.ref C3) = some true) (bp_o : PySem.W.nsIn K cStatics "thirdparty.any" = some none) (bp_top : (l.prog.main.scope.names.lookup ("super" : Str)).isSome = false)
    (bp_l : K.lookup bF = some ⟨boc, bod, .func (PySem.W.ksFn "__init__" bqual (defArgs st_bp) (defBody st_bp) (defScope st_bp) .none bkV bdoc bpm ban (.ref bcda) bct bcc), bosl⟩) (bp_cd : PySem.W.codeIn K (.ref bcda) bqual = true) (bp_lc : K.lookup bcda = some ⟨bccl, bcdd, .fields bvs, bccs⟩) (bp_v2 : bvs[2]? = some (.str bfile btf)) (bp_fl : ((l.prog.main.file : Str) == bfile) = true) (bp_ce : K.lookup bcc = some ⟨bcl, bcld, .cell (some (.ref C3)), bcsl⟩)
    (y_g : PySem.W.nsIn K mainGlobals "Yard" = some (some (.ref CY))) (y_m : PySem.W.makesIn K CY = true) (y_i : PySem.W.findIn K (.ref CY) "__init__" = some (some (.ref fI))) (y_f : PySem.W.isFn K (.ref fI) = true) (y_k : PySem.W.keepIn K (.ref CY) = true) (y_c1 : PySem.W.plainGet K CY Str.empty = true) (y_c2 : PySem.W.hasDictIn K CY = true) (y_c3 : PySem.W.plainOver K CY = true) (y_c4 : PySem.W.findIn K (.ref CY) "__setattr__" = some (some (.builtin "object.__setattr__")))
    (y_nbed : NoAttr K CY "bed")
    (y_nroom : NoAttr K CY "room")
    (y_ndug : NoAttr K CY "dug")
    (y_nfloor : NoAttr K CY "floor")
    (y_nstock : NoAttr K CY "stock")
    (y_nwants : NoAttr K CY "wants")
    (y_nmoney : NoAttr K CY "money")
    (y_ndeeds : NoAttr K CY "deeds")
    (y_nundone : NoAttr K CY "undone")
    (y_s : PySem.W.findIn K (.ref CY) "sell" = some (some (.ref fS))) (y_sf : PySem.W.isFn K (.ref fS) = true) (y_sk : PySem.W.keepIn K (.ref fS) = true)
    (y_l : K.lookup fI = some ⟨yoc, yod, .func (PySem.W.fnOf "__init__" "Yard.__init__" (defArgs st_y0) (defBody st_y0) (defScope st_y0) .none ykV ydc ypm yan ycd yct), ysl⟩) (y_lc : PySem.W.codeIn K ycd "Yard.__init__" = true) (y_lk : PySem.W.keepIn K (.ref fI) = true)
    (y_t : K.lookup fS = some ⟨soc, sod, .func (PySem.W.fnOf "sell" "Yard.sell" (defArgs st_y7) (defBody st_y7) (defScope st_y7) .none skV sdc spm san scd sct), ssl⟩) (y_tc : PySem.W.codeIn K scd "Yard.sell" = true)
    (z_VE : PySem.W.nsIn K mainGlobals "ValueError" = some none)
    (ec_0 : ExcC K C0) (e0_5 : PySem.W.exmOne K (.ref C0) (.ref C5) = some true) (ev0 : PySem.W.kitOne K (.ref C0) (.type "ValueError") = some true)
    (ek0_0 : PySem.W.kitOne K (.ref C0) (.ref C0) = some true)
    (ek0_1 : PySem.W.kitOne K (.ref C0) (.ref C1) = some false)
    (ek0_2 : PySem.W.kitOne K (.ref C0) (.ref C2) = some false)
    (ek0_3 : PySem.W.kitOne K (.ref C0) (.ref C3) = some false)
    (ek0_4 : PySem.W.kitOne K (.ref C0) (.ref C4) = some false)
    (ec_1 : ExcC K C1) (e1_5 : PySem.W.exmOne K (.ref C1) (.ref C5) = some true) (ev1 : PySem.W.kitOne K (.ref C1) (.type "ValueError") = some true)
    (ek1_0 : PySem.W.kitOne K (.ref C1) (.ref C0) = some false)
    (ek1_1 : PySem.W.kitOne K (.ref C1) (.ref C1) = some true)
    (ek1_2 : PySem.W.kitOne K (.ref C1) (.ref C2) = some false)
    (ek1_3 : PySem.W.kitOne K (.ref C1) (.ref C3) = some false)
    (ek1_4 : PySem.W.kitOne K (.ref C1) (.ref C4) = some false)
    (ec_2 : ExcC K C2) (e2_5 : PySem.W.exmOne K (.ref C2) (.ref C5) = some true) (ev2 : PySem.W.kitOne K (.ref C2) (.type "ValueError") = some true)
    (ek2_0 : PySem.W.kitOne K (.ref C2) (.ref C0) = some false)
    (ek2_1 : PySem.W.kitOne K (.ref C2) (.ref C1) = some false)
    (ek2_2 : PySem.W.kitOne K (.ref C2) (.ref C2) = some true)
    (ek2_3 : PySem.W.kitOne K (.ref C2) (.ref C3) = some false)
    (ek2_4 : PySem.W.kitOne K (.ref C2) (.ref C4) = some false)
    (ec_3 : ExcC K C3) (e3_5 : PySem.W.exmOne K (.ref C3) (.ref C5) = some true) (ev3 : PySem.W.kitOne K (.ref C3) (.type "ValueError") = some true)
    (ek3_0 : PySem.W.kitOne K (.ref C3) (.ref C0) = some false)
    (ek3_1 : PySem.W.kitOne K (.ref C3) (.ref C1) = some false)
    (ek3_2 : PySem.W.kitOne K (.ref C3) (.ref C2) = some false)
    (ek3_3 : PySem.W.kitOne K (.ref C3) (.ref C3) = some true)
    (ek3_4 : PySem.W.kitOne K (.ref C3) (.ref C4) = some false)
    (ec_4 : ExcC K C4) (e4_5 : PySem.W.exmOne K (.ref C4) (.ref C5) = some true) (ev4 : PySem.W.kitOne K (.ref C4) (.type "ValueError") = some true)
    (ek4_0 : PySem.W.kitOne K (.ref C4) (.ref C0) = some false)
    (ek4_1 : PySem.W.kitOne K (.ref C4) (.ref C1) = some false)
    (ek4_2 : PySem.W.kitOne K (.ref C4) (.ref C2) = some false)
    (ek4_3 : PySem.W.kitOne K (.ref C4) (.ref C3) = some false)
    (ek4_4 : PySem.W.kitOne K (.ref C4) (.ref C4) = some true)
    (z_abs : PySem.W.nsIn K mainGlobals "abs" = some none)
    (z_all : PySem.W.nsIn K mainGlobals "all" = some none)
    (z_any : PySem.W.nsIn K mainGlobals "any" = some none)
    (z_bool : PySem.W.nsIn K mainGlobals "bool" = some none)
    (z_dict : PySem.W.nsIn K mainGlobals "dict" = some none)
    (z_enumerate : PySem.W.nsIn K mainGlobals "enumerate" = some none)
    (z_int : PySem.W.nsIn K mainGlobals "int" = some none)
    (z_isinstance : PySem.W.nsIn K mainGlobals "isinstance" = some none)
    (z_len : PySem.W.nsIn K mainGlobals "len" = some none)
    (z_list : PySem.W.nsIn K mainGlobals "list" = some none)
    (z_max : PySem.W.nsIn K mainGlobals "max" = some none)
    (z_min : PySem.W.nsIn K mainGlobals "min" = some none)
    (z_range : PySem.W.nsIn K mainGlobals "range" = some none)
    (z_reversed : PySem.W.nsIn K mainGlobals "reversed" = some none)
    (z_sorted : PySem.W.nsIn K mainGlobals "sorted" = some none)
    (z_sum : PySem.W.nsIn K mainGlobals "sum" = some none)
    (z_tuple : PySem.W.nsIn K mainGlobals "tuple" = some none)
    (z_zip : PySem.W.nsIn K mainGlobals "zip" = some none) (td_1 : (recsOf q).find? (fun (e : DefRec) => e.name == ("is_bed" : Str)) = some td1) (td_4 : (recsOf q).find? (fun (e : DefRec) => e.name == ("least_hoist" : Str)) = some td4) (td_5 : (recsOf q).find? (fun (e : DefRec) => e.name == ("shunted" : Str)) = some td5) (td_6 : (recsOf q).find? (fun (e : DefRec) => e.name == ("check_gains" : Str)) = some td6) (td_8 : (recsOf q).find? (fun (e : DefRec) => e.name == ("look_pit" : Str)) = some td8) (td_13 : (recsOf q).find? (fun (e : DefRec) => e.name == ("law" : Str)) = some td13) :
    LamX.LawAtS l w K (L2.CX l.prog w) 7 63 "script" mg fa h := by
  have e := hfa.symm.trans (PySem.W.mg_of X GN a13)
  cases e
  let G : G0 := { K := K, tk := fun pd n => if n = 0 then pd.map V.ref else none, T := [(tP1, (fun _ _ => none)), (tP4, (fun _ _ => none)), (tP5, L_shunted), (tP6, (fun _ _ => none)), (tP8, (fun _ _ => none)), (tP13, L_law)], cls := fun n => if n = 0 then C0 else if n = 1 then C1 else if n = 2 then C2 else if n = 3 then C3 else if n = 4 then C4 else if n = 5 then C5 else fa }
  have hG : ∀ pd, G.tk pd 0 = pd.map V.ref := fun _ => rfl
  have hb : Bn mg := ⟨PySem.W.mg_none_of X GN z_abs, PySem.W.mg_none_of X GN z_all, PySem.W.mg_none_of X GN z_any, PySem.W.mg_none_of X GN z_bool, PySem.W.mg_none_of X GN z_dict, PySem.W.mg_none_of X GN z_enumerate, PySem.W.mg_none_of X GN z_int, PySem.W.mg_none_of X GN z_isinstance, PySem.W.mg_none_of X GN z_len, PySem.W.mg_none_of X GN z_list, PySem.W.mg_none_of X GN z_max, PySem.W.mg_none_of X GN z_min, PySem.W.mg_none_of X GN z_range, PySem.W.mg_none_of X GN z_reversed, PySem.W.mg_none_of X GN z_sorted, PySem.W.mg_none_of X GN z_sum, PySem.W.mg_none_of X GN z_tuple, PySem.W.mg_none_of X GN z_zip⟩
  have xm_BadBed : mg "BadBed" = some (.ref (G.cls 0)) := PySem.W.mg_of X GN xg0
  have xm_TooLarge : mg "TooLarge" = some (.ref (G.cls 1)) := PySem.W.mg_of X GN xg1
  have xm_NoWay : mg "NoWay" = some (.ref (G.cls 2)) := PySem.W.mg_of X GN xg2
  have xm_BadPaper : mg "BadPaper" = some (.ref (G.cls 3)) := PySem.W.mg_of X GN xg3
  have xm_BadDeed : mg "BadDeed" = some (.ref (G.cls 4)) := PySem.W.mg_of X GN xg4
  have xm_QuarryFault : mg "QuarryFault" = some (.ref (G.cls 5)) := PySem.W.mg_of X GN xg5
  have x_BadBed : OwnX K mg "BadBed" (G.cls 0) := ⟨PySem.W.mg_of X GN xg0, xq0, xk0, xb0, xt0⟩
  have x_TooLarge : OwnX K mg "TooLarge" (G.cls 1) := ⟨PySem.W.mg_of X GN xg1, xq1, xk1, xb1, xt1⟩
  have x_NoWay : OwnX K mg "NoWay" (G.cls 2) := ⟨PySem.W.mg_of X GN xg2, xq2, xk2, xb2, xt2⟩
  have x_BadDeed : OwnX K mg "BadDeed" (G.cls 4) := ⟨PySem.W.mg_of X GN xg4, xq4, xk4, xb4, xt4⟩
  have bp_ok : BpOk l.prog K mg (G.cls 3) bF := ⟨OexC.mk' bp_c bp_r bp_sa bp_x bp_t bp_k, PySem.W.mg_of X GN xg3, PySem.W.mg_none_of X GN bp_sup, bp_i, bp_ti, bp_no, bp_si, bp_sub, bp_m, bp_o, bp_top, ⟨boc, bod, bosl, bqual, defBody st_bp, defScope st_bp, defArgs st_bp, _, bkV, bdoc, bpm, bct, ban, bcda, bcc, bccl, bcl, bcdd, bcld, bvs, bccs, bcsl, bfile, btf, _, _, _, _, _, _, _, _, _, _, _, _, _, _, fun env => rfl, bp_l, bp_cd, rfl, rfl, rfl, rfl, bp_lc, bp_v2, bp_fl, bp_ce, fun s u v => .of_eq rfl⟩⟩
  have T1 := TA td1 "is_bed" tc1 tP1 td_1 (tabIn_of a1 l1 rfl t1 tw1)
  have fr_is_bed : FreeT G tP1 := ⟨List.mem_cons_self, by
    intro p hp e
    simp only [G, List.mem_cons, List.not_mem_nil, or_false] at hp
    rcases hp with rfl | rfl | rfl | rfl | rfl | rfl
    · rfl
    · rfl
    · exact absurd e np5_1
    · rfl
    · rfl
    · exact absurd e np13_1⟩
  have T4 := TA td4 "least_hoist" tc4 tP4 td_4 (tabIn_of a4 l4 rfl t4 tw4)
  have fr_least_hoist : FreeT G tP4 := ⟨(List.mem_cons_of_mem _ List.mem_cons_self), by
    intro p hp e
    simp only [G, List.mem_cons, List.not_mem_nil, or_false] at hp
    rcases hp with rfl | rfl | rfl | rfl | rfl | rfl
    · rfl
    · rfl
    · exact absurd e np5_4
    · rfl
    · rfl
    · exact absurd e np13_4⟩
  have T5 := TA td5 "shunted" tc5 tP5 td_5 (tabIn_of a5 l5 rfl t5 tw5)
  have lt_shunted : LamT G tP5 L_shunted := ⟨(List.mem_cons_of_mem _ (List.mem_cons_of_mem _ List.mem_cons_self)), by
    intro p hp e
    simp only [G, List.mem_cons, List.not_mem_nil, or_false] at hp
    rcases hp with rfl | rfl | rfl | rfl | rfl | rfl
    · exact absurd e.symm np5_1
    · exact absurd e.symm np5_4
    · rfl
    · exact absurd e.symm np5_6
    · exact absurd e.symm np5_8
    · exact absurd e.symm np5_13⟩
  have T6 := TA td6 "check_gains" tc6 tP6 td_6 (tabIn_of a6 l6 rfl t6 tw6)
  have fr_check_gains : FreeT G tP6 := ⟨(List.mem_cons_of_mem _ (List.mem_cons_of_mem _ (List.mem_cons_of_mem _ List.mem_cons_self))), by
    intro p hp e
    simp only [G, List.mem_cons, List.not_mem_nil, or_false] at hp
    rcases hp with rfl | rfl | rfl | rfl | rfl | rfl
    · rfl
    · rfl
    · exact absurd e np5_6
    · rfl
    · rfl
    · exact absurd e np13_6⟩
  have T8 := TA td8 "look_pit" tc8 tP8 td_8 (tabIn_of a8 l8 rfl t8 tw8)
  have fr_look_pit : FreeT G tP8 := ⟨(List.mem_cons_of_mem _ (List.mem_cons_of_mem _ (List.mem_cons_of_mem _ (List.mem_cons_of_mem _ List.mem_cons_self)))), by
    intro p hp e
    simp only [G, List.mem_cons, List.not_mem_nil, or_false] at hp
    rcases hp with rfl | rfl | rfl | rfl | rfl | rfl
    · rfl
    · rfl
    · exact absurd e np5_8
    · rfl
    · rfl
    · exact absurd e np13_8⟩
  have T13 := TA td13 "law" tc13 tP13 td_13 (tabIn_of a13 l13 rfl t13 tw13)
  have lt_law : LamT G tP13 L_law := ⟨(List.mem_cons_of_mem _ (List.mem_cons_of_mem _ (List.mem_cons_of_mem _ (List.mem_cons_of_mem _ (List.mem_cons_of_mem _ List.mem_cons_self))))), by
    intro p hp e
    simp only [G, List.mem_cons, List.not_mem_nil, or_false] at hp
    rcases hp with rfl | rfl | rfl | rfl | rfl | rfl
    · exact absurd e.symm np13_1
    · exact absurd e.symm np13_4
    · exact absurd e.symm np13_5
    · exact absurd e.symm np13_6
    · exact absurd e.symm np13_8
    · rfl⟩
  have hT1 : ∀ p ∈ ([(tc1, tP1), (tc4, tP4), (tc5, tP5), (tc6, tP6), (tc8, tP8), (tc13, tP13)] : List (Addr × Addr)), h.get? p.2 = some { cls := .none, data := .fields #[] } := fun p hp => by
    simp only [List.mem_cons, List.not_mem_nil, or_false] at hp
    rcases hp with rfl | rfl | rfl | rfl | rfl | rfl
    · exact T1.2
    · exact T4.2
    · exact T5.2
    · exact T6.2
    · exact T8.2
    · exact T13.2
  have hT2 : ∀ p ∈ ([(tc1, tP1), (tc4, tP4), (tc5, tP5), (tc6, tP6), (tc8, tP8), (tc13, tP13)] : List (Addr × Addr)), K.lookup p.2 = none := fun p hp => by
    simp only [List.mem_cons, List.not_mem_nil, or_false] at hp
    rcases hp with rfl | rfl | rfl | rfl | rfl | rfl
    · exact u1
    · exact u4
    · exact u5
    · exact u6
    · exact u8
    · exact u13
  have hT3 : ∀ p ∈ ([(tc1, tP1), (tc4, tP4), (tc5, tP5), (tc6, tP6), (tc8, tP8), (tc13, tP13)] : List (Addr × Addr)), PySem.W.CodeHd h p.1 p.2 := fun p hp => by
    simp only [List.mem_cons, List.not_mem_nil, or_false] at hp
    rcases hp with rfl | rfl | rfl | rfl | rfl | rfl
    · exact T1.1
    · exact T4.1
    · exact T5.1
    · exact T6.1
    · exact T8.1
    · exact T13.1
  refine ⟨PySem.W.fnOf "law" "law" (defArgs st_law) (defBody st_law) (defScope st_law) .none kV13 dc13 pm13 an13 (.ref tc13) ct13, [(tc1, tP1), (tc4, tP4), (tc5, tP5), (tc6, tP6), (tc8, tP8), (tc13, tP13)], spLaw K G.T, hT1, hT2, hT3, fun s u => .of_eq rfl, fun H a ns hlen _ hH hS => ⟨a, ns, rfl, hS, hlen, ?_, fun _ => rfl⟩, fun base _ _ TB => ?_⟩
  · intro p hp
    simp only [G, List.mem_cons, List.not_mem_nil, or_false] at hp
    rcases hp with rfl | rfl | rfl | rfl | rfl | rfl
    · exact TabP.nil (hH (tc1, tP1) List.mem_cons_self)
    · exact TabP.nil (hH (tc4, tP4) (by simp))
    · exact TabP.nil (hH (tc5, tP5) (by simp))
    · exact TabP.nil (hH (tc6, tP6) (by simp))
    · exact TabP.nil (hH (tc8, tP8) (by simp))
    · exact TabP.nil (hH (tc13, tP13) (by simp))
  have tb_is_bed : LamX.TabB base mg tc1 tP1 := TB (tc1, tP1) (by simp)
  have tb_least_hoist : LamX.TabB base mg tc4 tP4 := TB (tc4, tP4) (by simp)
  have tb_shunted : LamX.TabB base mg tc5 tP5 := TB (tc5, tP5) (by simp)
  have tb_check_gains : LamX.TabB base mg tc6 tP6 := TB (tc6, tP6) (by simp)
  have tb_look_pit : LamX.TabB base mg tc8 tP8 := TB (tc8, tP8) (by simp)
  have tb_law : LamX.TabB base mg tc13 tP13 := TB (tc13, tP13) (by simp)
  have F0 := funC_mk (st := st_is_whole) l0 c0 k0
  have b0 := F0.toFun.binds (ps := ["thing", "low", "high"]) fun _ _ _ _ _ _ us hl => match us, hl with | [_, _, _], _ => rfl
  have k_is_whole : Kn l.prog w K mg base G "is_whole" 1 3 fM_is_whole := mkKn (ok_is_whole F0 hb hG) (PySem.W.mg_of X GN a0) k0 b0
  have F1 := funC_mk (st := st_is_bed) l1 c1 k1
  have b1 := F1.toFun.binds (ps := ["thing"]) fun _ _ _ _ _ _ us hl => match us, hl with | [_], _ => rfl
  have k_is_bed : Kn l.prog w K mg base G "is_bed" 3 1 fM_is_bed := mkKn (ok_is_bed F1 hb hG k_is_whole tb_is_bed fr_is_bed) (PySem.W.mg_of X GN a1) k1 b1
  have F2 := funC_mk (st := st_check_bed) l2 c2 k2
  have b2 := F2.toFun.binds (ps := ["thing"]) fun _ _ _ _ _ _ us hl => match us, hl with | [_], _ => rfl
  have k_check_bed : Kn l.prog w K mg base G "check_bed" 4 1 fM_check_bed := mkKn (ok_check_bed F2 hb hG k_is_bed x_BadBed) (PySem.W.mg_of X GN a2) k2 b2
  have F3 := funC_mk (st := st_partings) l3 c3 k3
  have b3 := F3.toFun.binds (ps := ["many"]) fun _ _ _ _ _ _ us hl => match us, hl with | [_], _ => rfl
  have k_partings : Kn l.prog w K mg base G "partings" 1 1 fM_partings := mkKn (ok_partings F3 hb hG) (PySem.W.mg_of X GN a3) k3 b3
  have F4 := funC_mk (st := st_least_hoist) l4 c4 k4
  have b4 := F4.toFun.binds (ps := ["levels", "room", "step"]) fun _ _ _ _ _ _ us hl => match us, hl with | [_, _, _], _ => rfl
  have k_least_hoist : Kn l.prog w K mg base G "least_hoist" 3 3 fM_least_hoist := mkKn (ok_least_hoist F4 hb hG k_partings x_TooLarge tb_least_hoist fr_least_hoist) (PySem.W.mg_of X GN a4) k4 b4
  have F5 := funC_mk (st := st_shunted) l5 c5 k5
  have b5 := F5.toFun.binds (ps := ["wagons", "sidings"]) fun _ _ _ _ _ _ us hl => match us, hl with | [_, _], _ => rfl
  have k_shunted : Kn l.prog w K mg base G "shunted" 3 2 fM_shunted := mkKn (ok_shunted F5 hb hG x_NoWay tb_shunted lt_shunted) (PySem.W.mg_of X GN a5) k5 b5
  have F6 := funC_mk (st := st_check_gains) l6 c6 k6
  have b6 := F6.toFun.binds (ps := ["gains"]) fun _ _ _ _ _ _ us hl => match us, hl with | [_], _ => rfl
  have k_check_gains : Kn l.prog w K mg base G "check_gains" 2 1 fM_check_gains := mkKn (ok_check_gains F6 hb hG x_BadBed tb_check_gains fr_check_gains) (PySem.W.mg_of X GN a6) k6 b6
  have F7 := funC_mk (st := st_cells_of) l7 c7 k7
  have b7 := F7.toFun.binds (ps := ["depths"]) fun _ _ _ _ _ _ us hl => match us, hl with | [_], _ => rfl
  have k_cells_of : Kn l.prog w K mg base G "cells_of" 1 1 fM_cells_of := mkKn (ok_cells_of F7 hb hG) (PySem.W.mg_of X GN a7) k7 b7
  have F8 := funC_mk (st := st_look_pit) l8 c8 k8
  have b8 := F8.toFun.binds (ps := ["gains", "depths", "whole"]) fun _ _ _ _ _ _ us hl => match us, hl with | [_, _, _], _ => rfl
  have k_look_pit : Kn l.prog w K mg base G "look_pit" 4 3 fM_look_pit := mkKn (ok_look_pit F8 hb hG k_check_gains k_cells_of tb_look_pit fr_look_pit bp_ok) (PySem.W.mg_of X GN a8) k8 b8
  have F9 := funC_mk (st := st_n_law_dice) l9 c9 k9
  have b9 := F9.toFun.binds (ps := ["cell"]) fun _ _ _ _ _ _ us hl => match us, hl with | [_], _ => rfl
  have k_n_law_dice : Kn l.prog w K mg base G "_law_dice" 1 1 fM_n_law_dice := mkKn (ok_n_law_dice F9 hb hG) (PySem.W.mg_of X GN a9) k9 b9
  have F10 := funC_mk (st := st_n_law_roll) l10 c10 k10
  have b10 := F10.toFun.binds (ps := ["dice", "many"]) fun _ _ _ _ _ _ us hl => match us, hl with | [_, _], _ => rfl
  have k_n_law_roll : Kn l.prog w K mg base G "_law_roll" 1 2 fM_n_law_roll := mkKn (ok_n_law_roll F10 hb hG) (PySem.W.mg_of X GN a10) k10 b10
  have F11 := funC_mk (st := st_n_law_rounds) l11 c11 k11
  have b11 := F11.toFun.binds (ps := ["script", "most"]) fun _ _ _ _ _ _ us hl => match us, hl with | [_, _], _ => rfl
  have kr : KnR l.prog w K mg base G "_law_rounds" 2 := mkKnR (ok_n_law_rounds F11 hb hG k_n_law_dice) (PySem.W.mg_of X GN a11) k11 b11
  have F12 := funC_mk (st := st_n_law_told) l12 c12 k12
  have b12 := F12.toFun.binds (ps := ["what"]) fun _ _ _ _ _ _ us hl => match us, hl with | [_], _ => rfl
  have told_ok := ok_n_law_told (K := K) (base := base) (P := l.prog) (w := w) (G := G) F12 hb (PySem.W.mg_of X GN a12) b12 xm_QuarryFault xm_BadBed xm_NoWay xm_BadPaper xm_TooLarge xm_BadDeed (PySem.W.mg_none_of X GN z_VE)
  have F13 := funC_mk (st := st_law) l13 c13 k13
  have kk : K20 K (fun k => G.cls (ci20 k)) (cvs20 G) (.type "ValueError") (.ref (G.cls 5)) := by
    refine ⟨fun k hk => ?_, fun k hk => ?_, fun k hk j hj => ?_, fun k hk => ?_⟩
    · match k, hk with
      | 0, _ => exact ec_0
      | 1, _ => exact ec_2
      | 2, _ => exact ec_3
      | 3, _ => exact ec_1
      | 4, _ => exact ec_4
    · match k, hk with
      | 0, _ => exact e0_5
      | 1, _ => exact e2_5
      | 2, _ => exact e3_5
      | 3, _ => exact e1_5
      | 4, _ => exact e4_5
    · match k, hk, j, hj with
      | 0, _, 0, _ => exact ek0_0
      | 0, _, 1, _ => exact ek0_2
      | 0, _, 2, _ => exact ek0_3
      | 0, _, 3, _ => exact ek0_1
      | 0, _, 4, _ => exact ek0_4
      | 1, _, 0, _ => exact ek2_0
      | 1, _, 1, _ => exact ek2_2
      | 1, _, 2, _ => exact ek2_3
      | 1, _, 3, _ => exact ek2_1
      | 1, _, 4, _ => exact ek2_4
      | 2, _, 0, _ => exact ek3_0
      | 2, _, 1, _ => exact ek3_2
      | 2, _, 2, _ => exact ek3_3
      | 2, _, 3, _ => exact ek3_1
      | 2, _, 4, _ => exact ek3_4
      | 3, _, 0, _ => exact ek1_0
      | 3, _, 1, _ => exact ek1_2
      | 3, _, 2, _ => exact ek1_3
      | 3, _, 3, _ => exact ek1_1
      | 3, _, 4, _ => exact ek1_4
      | 4, _, 0, _ => exact ek4_0
      | 4, _, 1, _ => exact ek4_2
      | 4, _, 2, _ => exact ek4_3
      | 4, _, 3, _ => exact ek4_1
      | 4, _, 4, _ => exact ek4_4
    · match k, hk with
      | 0, _ => exact ev0
      | 1, _ => exact ev2
      | 2, _ => exact ev3
      | 3, _ => exact ev1
      | 4, _ => exact ev4
  have FI := funC_mk (st := st_y0) y_l y_lc y_lk
  have FS := funC_mk (st := st_y7) y_t y_tc y_sk
  have cY : Cls K CY := ⟨y_c1, y_c2, y_c3, y_c4⟩
  have bI := FI.toFun.binds (ps := ["self", "bed", "room"]) fun _ _ _ _ _ _ us hl => match us, hl with | [_, _, _], _ => rfl
  have bS := FS.toFun.binds (ps := ["self", "number"]) fun _ _ _ _ _ _ us hl => match us, hl with | [_, _], _ => rfl
  have gI := ok_y0 (P := l.prog) (w := w) (mg := mg) (base := base) (G := G) FI k_check_bed cY y_nbed y_nroom y_ndug y_nfloor y_nstock y_nwants y_nmoney y_ndeeds y_nundone
  have gS := ok_y7 (P := l.prog) (w := w) (mg := mg) (base := base) FS cY y_nwants x_BadDeed
  exact ok_law F13 hb hG (fun pd i hi => if_neg hi) kr k_n_law_roll k_check_bed k_shunted k_look_pit k_least_hoist tb_law lt_law told_ok kk ⟨y_m, y_i, y_f, y_k⟩ gI bI (PySem.W.mg_of X GN y_g) cY ⟨y_s, y_sf, y_sk⟩ gS bS hck20 hex20 turn_ok
theorem walk {l : PySem.W.OpenLaw} {q : Program} {loose : List Str} {XP : (Str → Option Value) → Heap → Prop} {YP : World → Heap → Prop} {d : DefRec} {K : Params → PySem.W.Frag} (hn : l.most = some 63) (hdf : d.params.defaults = []) (hY : ∀ (w : World) (h : Heap), YP w h → (K w.params).In h)
    (F : ∀ (w : World) (mg : Str → Option Value) (fa : Addr) (h : Heap), (K w.params).In h → h.Ns mainGlobals mg → mg d.name = some (.ref fa) → TabAll q (K w.params) h → LamX.LawAtS l w (K w.params) (L2.CX l.prog w) 7 63 "script" mg fa h) :
    PySem.W.WalkO q loose XP YP l.row.toRowW d [] (fun f vs => PySem.call f vs) :=
  walk_tabs (n := 63) (k := 7) (x := "script") (CX := fun w => L2.CX l.prog w) hn (by decide) hdf ⟨rfl, by decide, by decide⟩ hY (fun w mg fa h _ => F w mg fa h) hCX0
end L2.Fl.k20
open PySem PySem.W PyProof.Rows
set_option maxRecDepth 100000 in
set_option maxHeartbeats 0 in
theorem PySem.Challenge.cw_quarryline_k20_refusals_apart_holds : PySem.Challenge.rw_quarryline_k20_refusals_apart.Holds := by
  w_on; o_law; k_head; (case hw => w_witness2)
  k_fill
  refine L2.Fl.k20.walk (l := PySem.Challenge.rw_quarryline_k20_refusals_apart) rfl rfl (fun w h Y => PySem.W.km_in_of Y) ?F
  case F =>
    intro w mg fa h KX G hmg TA
    refine' L2.Fl.k20.all_mk TA KX G hmg ?a0 ?l0 ?c0 ?k0 ?a1 ?l1 ?c1 ?k1 ?t1 ?tw1 ?u1 ?a2 ?l2 ?c2 ?k2 ?a3 ?l3 ?c3 ?k3 ?a4 ?l4 ?c4 ?k4 ?t4 ?tw4 ?u4 ?a5 ?l5 ?c5 ?k5 ?t5 ?tw5 ?u5 ?a6 ?l6 ?c6 ?k6 ?t6 ?tw6 ?u6 ?a7 ?l7 ?c7 ?k7 ?a8 ?l8 ?c8 ?k8 ?t8 ?tw8 ?u8 ?a9 ?l9 ?c9 ?k9 ?a10 ?l10 ?c10 ?k10 ?a11 ?l11 ?c11 ?k11 ?a12 ?l12 ?c12 ?k12 ?a13 ?l13 ?c13 ?k13 ?t13 ?tw13 ?u13 ?np5_1 ?np5_4 ?np5_6 ?np5_8 ?np5_13 ?np13_1 ?np13_4 ?np13_5 ?np13_6 ?np13_8 ?xg0 ?xq0 ?xk0 ?xb0 ?xt0 ?xg1 ?xq1 ?xk1 ?xb1 ?xt1 ?xg2 ?xq2 ?xk2 ?xb2 ?xt2 ?xg3 ?xg4 ?xq4 ?xk4 ?xb4 ?xt4 ?xg5 ?bp_c ?bp_r ?bp_sa ?bp_x ?bp_t ?bp_k ?bp_sup ?bp_i ?bp_ti ?bp_no ?bp_si ?bp_sub ?bp_m ?bp_o ?bp_top ?bp_l ?bp_cd ?bp_lc ?bp_v2 ?bp_fl ?bp_ce ?y_g ?y_m ?y_i ?y_f ?y_k ?y_c1 ?y_c2 ?y_c3 ?y_c4 ?y_nbed ?y_nroom ?y_ndug ?y_nfloor ?y_nstock ?y_nwants ?y_nmoney ?y_ndeeds ?y_nundone ?y_s ?y_sf ?y_sk ?y_l ?y_lc ?y_lk ?y_t ?y_tc ?z_VE ?ec_0 ?e0_5 ?ev0 ?ek0_0 ?ek0_1 ?ek0_2 ?ek0_3 ?ek0_4 ?ec_1 ?e1_5 ?ev1 ?ek1_0 ?ek1_1 ?ek1_2 ?ek1_3 ?ek1_4 ?ec_2 ?e2_5 ?ev2 ?ek2_0 ?ek2_1 ?ek2_2 ?ek2_3 ?ek2_4 ?ec_3 ?e3_5 ?ev3 ?ek3_0 ?ek3_1 ?ek3_2 ?ek3_3 ?ek3_4 ?ec_4 ?e4_5 ?ev4 ?ek4_0 ?ek4_1 ?ek4_2 ?ek4_3 ?ek4_4 ?z_abs ?z_all ?z_any ?z_bool ?z_dict ?z_enumerate ?z_int ?z_isinstance ?z_len ?z_list ?z_max ?z_min ?z_range ?z_reversed ?z_sorted ?z_sum ?z_tuple ?z_zip ?td_1 ?td_4 ?td_5 ?td_6 ?td_8 ?td_13
    (case a0 => k_is)
    (case l0 => k_is)
    (case c0 => k_is)
    (case k0 => k_is)
    (case a1 => k_is)
    (case l1 => k_is)
    (case c1 => k_is)
    (case k1 => k_is)
    (case t1 => k_is)
    (case tw1 => rfl)
    (case u1 => kernel_rfl)
    (case a2 => k_is)
    (case l2 => k_is)
    (case c2 => k_is)
    (case k2 => k_is)
    (case a3 => k_is)
    (case l3 => k_is)
    (case c3 => k_is)
    (case k3 => k_is)
    (case a4 => k_is)
    (case l4 => k_is)
    (case c4 => k_is)
    (case k4 => k_is)
    (case t4 => k_is)
    (case tw4 => rfl)
    (case u4 => kernel_rfl)
    (case a5 => k_is)
    (case l5 => k_is)
    (case c5 => k_is)
    (case k5 => k_is)
    (case t5 => k_is)
    (case tw5 => rfl)
    (case u5 => kernel_rfl)
    (case a6 => k_is)
    (case l6 => k_is)
    (case c6 => k_is)
    (case k6 => k_is)
    (case t6 => k_is)
    (case tw6 => rfl)
    (case u6 => kernel_rfl)
    (case a7 => k_is)
    (case l7 => k_is)
    (case c7 => k_is)
    (case k7 => k_is)
    (case a8 => k_is)
    (case l8 => k_is)
    (case c8 => k_is)
    (case k8 => k_is)
    (case t8 => k_is)
    (case tw8 => rfl)
    (case u8 => kernel_rfl)
    (case a9 => k_is)
    (case l9 => k_is)
    (case c9 => k_is)
    (case k9 => k_is)
    (case a10 => k_is)
    (case l10 => k_is)
    (case c10 => k_is)
    (case k10 => k_is)
    (case a11 => k_is)
    (case l11 => k_is)
    (case c11 => k_is)
    (case k11 => k_is)
    (case a12 => k_is)
    (case l12 => k_is)
    (case c12 => k_is)
    (case k12 => k_is)
    (case a13 => k_is)
    (case l13 => k_is)
    (case c13 => k_is)
    (case k13 => k_is)
    (case t13 => k_is)
    (case tw13 => rfl)
    (case u13 => kernel_rfl)
    (case np5_1 => decide)
    (case np5_4 => decide)
    (case np5_6 => decide)
    (case np5_8 => decide)
    (case np5_13 => decide)
    (case np13_1 => decide)
    (case np13_4 => decide)
    (case np13_5 => decide)
    (case np13_6 => decide)
    (case np13_8 => decide)
    (case xg0 => k_is)
    (case xq0 => k_exc)
    (case xk0 => k_is)
    (case xb0 => k_is)
    (case xt0 => k_is)
    (case xg1 => k_is)
    (case xq1 => k_exc)
    (case xk1 => k_is)
    (case xb1 => k_is)
    (case xt1 => k_is)
    (case xg2 => k_is)
    (case xq2 => k_exc)
    (case xk2 => k_is)
    (case xb2 => k_is)
    (case xt2 => k_is)
    (case xg3 => k_is)
    (case xg4 => k_is)
    (case xq4 => k_exc)
    (case xk4 => k_is)
    (case xb4 => k_is)
    (case xt4 => k_is)
    (case xg5 => k_is)
    (case bp_c => (first | k_is | kernel_rfl | rfl | decide))
    (case bp_r => (first | rfl | kernel_rfl | decide))
    (case bp_sa => (first | k_is | kernel_rfl | rfl | decide))
    (case bp_x => (first | k_is | kernel_rfl | rfl | decide))
    (case bp_t => (first | k_is | kernel_rfl | rfl | decide))
    (case bp_k => (first | k_is | kernel_rfl | rfl | decide))
    (case bp_sup => (first | k_is | kernel_rfl | rfl | decide))
    (case bp_i => (first | k_is | kernel_rfl | rfl | decide))
    (case bp_ti => (first | k_is | kernel_rfl | rfl | decide))
    (case bp_no => (first | k_is | kernel_rfl | rfl | decide))
    (case bp_si => (first | k_is | kernel_rfl | rfl | decide))
    (case bp_sub => (first | k_is | kernel_rfl | rfl | decide))
    (case bp_m => (first | k_is | kernel_rfl | rfl | decide))
    (case bp_o => (first | k_is | kernel_rfl | rfl | decide))
    (case bp_top => (first | rfl | kernel_rfl | decide))
    (case bp_l => (first | k_is | kernel_rfl | rfl | decide))
    (case bp_cd => (first | k_is | kernel_rfl | rfl | decide))
    (case bp_lc => (first | k_is | kernel_rfl | rfl | decide))
    (case bp_v2 => rfl)
    (case bp_fl => (first | rfl | kernel_rfl | decide))
    (case bp_ce => (first | k_is | kernel_rfl | rfl | decide))
    (case y_g => (first | k_is | kernel_rfl | rfl | decide))
    (case y_m => (first | k_is | kernel_rfl | rfl | decide))
    (case y_i => (first | k_is | kernel_rfl | rfl | decide))
    (case y_f => (first | k_is | kernel_rfl | rfl | decide))
    (case y_k => (first | k_is | kernel_rfl | rfl | decide))
    (case y_c1 => (first | k_is | kernel_rfl | rfl | decide))
    (case y_c2 => (first | k_is | kernel_rfl | rfl | decide))
    (case y_c3 => (first | k_is | kernel_rfl | rfl | decide))
    (case y_c4 => (first | k_is | kernel_rfl | rfl | decide))
    (case y_nbed => (first | k_is | kernel_rfl | rfl | decide))
    (case y_nroom => (first | k_is | kernel_rfl | rfl | decide))
    (case y_ndug => (first | k_is | kernel_rfl | rfl | decide))
    (case y_nfloor => (first | k_is | kernel_rfl | rfl | decide))
    (case y_nstock => (first | k_is | kernel_rfl | rfl | decide))
    (case y_nwants => (first | k_is | kernel_rfl | rfl | decide))
    (case y_nmoney => (first | k_is | kernel_rfl | rfl | decide))
    (case y_ndeeds => (first | k_is | kernel_rfl | rfl | decide))
    (case y_nundone => (first | k_is | kernel_rfl | rfl | decide))
    (case y_s => (first | k_is | kernel_rfl | rfl | decide))
    (case y_sf => (first | k_is | kernel_rfl | rfl | decide))
    (case y_sk => (first | k_is | kernel_rfl | rfl | decide))
    (case y_l => (first | k_is | kernel_rfl | rfl | decide))
    (case y_lc => (first | k_is | kernel_rfl | rfl | decide))
    (case y_lk => (first | k_is | kernel_rfl | rfl | decide))
    (case y_t => (first | k_is | kernel_rfl | rfl | decide))
    (case y_tc => (first | k_is | kernel_rfl | rfl | decide))
    (case z_VE => k_is)
    (case ec_0 => exact ⟨(by first | k_is | kernel_rfl | rfl | decide), (by first | k_is | kernel_rfl | rfl | decide), (by first | k_is | kernel_rfl | rfl | decide), (by first | k_is | kernel_rfl | rfl | decide), (by first | k_is | kernel_rfl | rfl | decide), (by first | k_is | kernel_rfl | rfl | decide), (by first | k_is | kernel_rfl | rfl | decide), (by first | k_is | kernel_rfl | rfl | decide)⟩)
    (case e0_5 => kernel_rfl)
    (case ev0 => kernel_rfl)
    (case ek0_0 => kernel_rfl)
    (case ek0_1 => kernel_rfl)
    (case ek0_2 => kernel_rfl)
    (case ek0_3 => kernel_rfl)
    (case ek0_4 => kernel_rfl)
    (case ec_1 => exact ⟨(by first | k_is | kernel_rfl | rfl | decide), (by first | k_is | kernel_rfl | rfl | decide), (by first | k_is | kernel_rfl | rfl | decide), (by first | k_is | kernel_rfl | rfl | decide), (by first | k_is | kernel_rfl | rfl | decide), (by first | k_is | kernel_rfl | rfl | decide), (by first | k_is | kernel_rfl | rfl | decide), (by first | k_is | kernel_rfl | rfl | decide)⟩)
    (case e1_5 => kernel_rfl)
    (case ev1 => kernel_rfl)
    (case ek1_0 => kernel_rfl)
    (case ek1_1 => kernel_rfl)
    (case ek1_2 => kernel_rfl)
    (case ek1_3 => kernel_rfl)
    (case ek1_4 => kernel_rfl)
    (case ec_2 => exact ⟨(by first | k_is | kernel_rfl | rfl | decide), (by first | k_is | kernel_rfl | rfl | decide), (by first | k_is | kernel_rfl | rfl | decide), (by first | k_is | kernel_rfl | rfl | decide), (by first | k_is | kernel_rfl | rfl | decide), (by first | k_is | kernel_rfl | rfl | decide), (by first | k_is | kernel_rfl | rfl | decide), (by first | k_is | kernel_rfl | rfl | decide)⟩)
    (case e2_5 => kernel_rfl)
    (case ev2 => kernel_rfl)
    (case ek2_0 => kernel_rfl)
    (case ek2_1 => kernel_rfl)
    (case ek2_2 => kernel_rfl)
    (case ek2_3 => kernel_rfl)
    (case ek2_4 => kernel_rfl)
    (case ec_3 => exact ⟨(by first | k_is | kernel_rfl | rfl | decide), (by first | k_is | kernel_rfl | rfl | decide), (by first | k_is | kernel_rfl | rfl | decide), (by first | k_is | kernel_rfl | rfl | decide), (by first | k_is | kernel_rfl | rfl | decide), (by first | k_is | kernel_rfl | rfl | decide), (by first | k_is | kernel_rfl | rfl | decide), (by first | k_is | kernel_rfl | rfl | decide)⟩)
    (case e3_5 => kernel_rfl)
    (case ev3 => kernel_rfl)
    (case ek3_0 => kernel_rfl)
    (case ek3_1 => kernel_rfl)
    (case ek3_2 => kernel_rfl)
    (case ek3_3 => kernel_rfl)
    (case ek3_4 => kernel_rfl)
    (case ec_4 => exact ⟨(by first | k_is | kernel_rfl | rfl | decide), (by first | k_is | kernel_rfl | rfl | decide), (by first | k_is | kernel_rfl | rfl | decide), (by first | k_is | kernel_rfl | rfl | decide), (by first | k_is | kernel_rfl | rfl | decide), (by first | k_is | kernel_rfl | rfl | decide), (by first | k_is | kernel_rfl | rfl | decide), (by first | k_is | kernel_rfl | rfl | decide)⟩)
    (case e4_5 => kernel_rfl)
    (case ev4 => kernel_rfl)
    (case ek4_0 => kernel_rfl)
    (case ek4_1 => kernel_rfl)
    (case ek4_2 => kernel_rfl)
    (case ek4_3 => kernel_rfl)
    (case ek4_4 => kernel_rfl)
    (case z_abs => k_is)
    (case z_all => k_is)
    (case z_any => k_is)
    (case z_bool => k_is)
    (case z_dict => k_is)
    (case z_enumerate => k_is)
    (case z_int => k_is)
    (case z_isinstance => k_is)
    (case z_len => k_is)
    (case z_list => k_is)
    (case z_max => k_is)
    (case z_min => k_is)
    (case z_range => k_is)
    (case z_reversed => k_is)
    (case z_sorted => k_is)
    (case z_sum => k_is)
    (case z_tuple => k_is)
    (case z_zip => k_is)
    (case td_1 => rfl)
    (case td_4 => rfl)
    (case td_5 => rfl)
    (case td_6 => rfl)
    (case td_8 => rfl)
    (case td_13 => rfl)

