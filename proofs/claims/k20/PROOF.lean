import PyProof.Rows.All
import Wide.All
import OpenK.AllK
import Wide.FinOn
import KE.KStateDown
import Lean
import HandS.ForMost
import HandS.ForExc
import HandS.Flow
import HandS.Style
import HandS.Conv
import HandS.TupAny
import HandS.NoneIn
import HandS.CallSlots
import HandS.Defaults
import HandS.TupLen
import HandS.Iter
import HandS.Zip
import HandS.Rev
import HandS.Text
import HandS.IsInst
import HandS.TupMul
import KE.DataCmp
import KE.SortData
import KE.DataMinMax
import PyProof.Rows.InDataRows
import PyProof.Rows.StrMul
import KE.SortCalls
import HandS.Sort
import KE.DataAny
import HandS.Dict
import KE.KIndexOf
import HandS.TryOnly
import HandS.ExcOwn
import HandS.Small
import HandS.DictComp
import HandS.Strs
import HandS.Words
import HandS.WordsExc
import HandS.Head0
import HandS.Head1
import HandS.Head2
import HandS.HeadEnd
import HandS.HeadHook1
import HandS.HeadHook2
import HandS.EndBits
import PySem.Challenge.RW_allsounded_k20_syllables_sung_and_phrase
set_option Elab.async false
set_option linter.all false
set_option maxRecDepth 100000
/-! VL: value semantics over the hand layer.  A def's mirror is a plain function over PyData; each construct has one rule that gives its mirror. -/
namespace VL
open PySem PySem.Spec PyProof.Rows L2

abbrev D := PyData

/-- what a slot holds: nothing, a datum that is never changed again, a list of one's own, a list handed in to be changed -/
inductive Box where
  | li (l : List D)
  | dk (es : List (D × D))
  | dt (es : List (D × D))
def Box.data : Box → D
  | .li l => .list l
  | .dk es => .dict es
  | .dt es => .dict es
inductive SV where
  | no
  | val (d : D)
  | lst (l : Box)
  | iol (l : Box)
abbrev Rho := List SV
/-- an expression's result: a datum, or the list that stands in a slot -/
inductive R where
  | v (d : D)
  | b (i : Nat)
inductive Res (α : Type) where
  | bad
  | exc (x : String) (ρ : Rho)
  | ok (a : α) (ρ : Rho)
abbrev M (α : Type) := Rho → Res α
inductive SRes where
  | bad
  | exc (x : String) (ρ : Rho)
  | nx (ρ : Rho)
  | rt (d : D) (ρ : Rho)
  | bk (ρ : Rho)
  | ct (ρ : Rho)
abbrev MS := Rho → SRes

/-! ### what a datum is in the heap -/
def keyD : Key → D
  | .inl i => .int i
  | .inr x => .str x
mutual
inductive Rp (K : PySem.W.Frag) (F : Hp) : V → D → Prop
  | non : Rp K F .non .none
  | bl (b : Bool) : Rp K F (.bl b) (.bool b)
  | int (i : Int) : Rp K F (.int i) (.int i)
  | str (x : Str) : Rp K F (.str x) (.str x)
  | lst {a : Addr} {xs : List V} {ds : List D} : F a = some (.lst xs) → RpAll K F xs ds → Rp K F (.ref a) (.list ds)
  | frl {a : Addr} {xs : List V} {ds : List D} : SqL K F a xs → RpAll K F xs ds → Rp K F (.ref a) (.dict [(.none, .list ds)])
  | tup {a : Addr} {xs : List V} {ds : List D} : SqT K F a xs → RpAll K F xs ds → Rp K F (.ref a) (.tuple ds)
  | dct {a : Addr} {o : Obj} {kvs : List (Key × V)} {ds : List (D × D)} : F a = some (.frz o (.dK kvs)) → RpKs K F kvs ds → Rp K F (.ref a) (.dict ds)
  | dctT {a : Addr} {o : Obj} {kvs : List (List Key × V)} {ds : List (D × D)} : F a = some (.frz o (.dT kvs)) → RpTs K F kvs ds → Rp K F (.ref a) (.dict ds)
inductive RpAll (K : PySem.W.Frag) (F : Hp) : List V → List D → Prop
  | nil : RpAll K F [] []
  | cons {v : V} {vs : List V} {d : D} {ds : List D} : Rp K F v d → RpAll K F vs ds → RpAll K F (v :: vs) (d :: ds)
inductive RpKs (K : PySem.W.Frag) (F : Hp) : List (Key × V) → List (D × D) → Prop
  | nil : RpKs K F [] []
  | cons {k : Key} {v : V} {vs : List (Key × V)} {d : D} {ds : List (D × D)} : Rp K F v d → RpKs K F vs ds → RpKs K F ((k, v) :: vs) ((keyD k, d) :: ds)
inductive RpTs (K : PySem.W.Frag) (F : Hp) : List (List Key × V) → List (D × D) → Prop
  | nil : RpTs K F [] []
  | cons {k : List Key} {v : V} {vs : List (List Key × V)} {d : D} {ds : List (D × D)} : Rp K F v d → RpTs K F vs ds → RpTs K F ((k, v) :: vs) ((.tuple (k.map keyD), d) :: ds)
end

def HLe (H H' : Hp) : Prop := ∀ b o, H b = some o → H' b = some o
theorem HLe.refl (H : Hp) : HLe H H := fun _ _ h => h
theorem HLe.trans {A B C : Hp} (h : HLe A B) (g : HLe B C) : HLe A C := fun b o q => g b o (h b o q)
theorem HLe.put {H : Hp} {a : Addr} {o : HO} (h : H a = none) : HLe H (upd H a o) := fun b u q => by rw [upd_ne (ne_of_none q h)]; exact q
theorem HLe.putR {F H : Hp} {a : Addr} {o : HO} (h : HLe F H) (n : F a = none) : HLe F (upd H a o) := fun b u q => by rw [upd_ne (ne_of_none q n)]; exact h b u q
theorem HLe.free {H H' : Hp} (e : HLe H H') {l : Addr} (h : H' l = Option.none) : H l = Option.none := by
  cases q : H l with
  | none => rfl
  | some o => rw [e l o q] at h; cases h
theorem SqL.le {K : PySem.W.Frag} {F F' : Hp} {a : Addr} {xs : List V} (e : HLe F F') (h : SqL K F a xs) : SqL K F' a xs := by
  rcases h with (h | ⟨o, h⟩) | h
  · exact .inl (.inl (e _ _ h))
  · exact .inl (.inr ⟨o, e _ _ h⟩)
  · exact .inr h
theorem SqT.le {K : PySem.W.Frag} {F F' : Hp} {a : Addr} {xs : List V} (e : HLe F F') (h : SqT K F a xs) : SqT K F' a xs := by
  rcases h with (h | ⟨o, h⟩) | h
  · exact .inl (.inl (e _ _ h))
  · exact .inl (.inr ⟨o, e _ _ h⟩)
  · exact .inr h
mutual
theorem Rp.le {K : PySem.W.Frag} {F F' : Hp} (e : HLe F F') : ∀ {v : V} {d : D}, Rp K F v d → Rp K F' v d
  | _, _, .non => .non
  | _, _, .bl b => .bl b
  | _, _, .int i => .int i
  | _, _, .str x => .str x
  | _, _, .lst h r => .lst (e _ _ h) (RpAll.le e r)
  | _, _, .frl h r => .frl (SqL.le e h) (RpAll.le e r)
  | _, _, .tup h r => .tup (SqT.le e h) (RpAll.le e r)
  | _, _, .dct h r => .dct (e _ _ h) (RpKs.le e r)
  | _, _, .dctT h r => .dctT (e _ _ h) (RpTs.le e r)
theorem RpAll.le {K : PySem.W.Frag} {F F' : Hp} (e : HLe F F') : ∀ {v : List V} {d : List D}, RpAll K F v d → RpAll K F' v d
  | _, _, .nil => .nil
  | _, _, .cons h r => .cons (Rp.le e h) (RpAll.le e r)
theorem RpKs.le {K : PySem.W.Frag} {F F' : Hp} (e : HLe F F') : ∀ {v : List (Key × V)} {d : List (D × D)}, RpKs K F v d → RpKs K F' v d
  | _, _, .nil => .nil
  | _, _, .cons h r => .cons (Rp.le e h) (RpKs.le e r)
theorem RpTs.le {K : PySem.W.Frag} {F F' : Hp} (e : HLe F F') : ∀ {v : List (List Key × V)} {d : List (D × D)}, RpTs K F v d → RpTs K F' v d
  | _, _, .nil => .nil
  | _, _, .cons h r => .cons (Rp.le e h) (RpTs.le e r)
end
section
variable {K : PySem.W.Frag} {F : Hp}
theorem RpAll.length : ∀ {vs : List V} {ds : List D}, RpAll K F vs ds → vs.length = ds.length
  | _, _, .nil => rfl
  | _, _, .cons _ r => congrArg (· + 1) r.length
theorem RpAll.append : ∀ {vs ws : List V} {ds es : List D}, RpAll K F vs ds → RpAll K F ws es → RpAll K F (vs ++ ws) (ds ++ es)
  | _, _, _, _, .nil, h => h
  | _, _, _, _, .cons h r, g => .cons h (r.append g)
theorem RpAll.get : ∀ {vs : List V} {ds : List D} {i : Nat} {d : D}, RpAll K F vs ds → ds[i]? = some d → ∃ v, vs[i]? = some v ∧ Rp K F v d
  | _, _, _, _, .nil, h => by simp at h
  | _, _, 0, _, .cons h _, e => by simp at e; subst e; exact ⟨_, rfl, h⟩
  | _, _, i + 1, _, .cons _ r, e => by simpa using r.get (i := i) (by simpa using e)
theorem RpAll.getV : ∀ {vs : List V} {ds : List D} {i : Nat} {v : V}, RpAll K F vs ds → vs[i]? = some v → ∃ d, ds[i]? = some d ∧ Rp K F v d
  | _, _, _, _, .nil, h => by simp at h
  | _, _, 0, _, .cons h _, e => by simp at e; subst e; exact ⟨_, rfl, h⟩
  | _, _, i + 1, _, .cons _ r, e => by simpa using r.getV (i := i) (by simpa using e)
theorem RpAll.take : ∀ {vs : List V} {ds : List D} (n : Nat), RpAll K F vs ds → RpAll K F (vs.take n) (ds.take n)
  | _, _, 0, _ => by simpa using RpAll.nil
  | _, _, n + 1, .nil => by simpa using RpAll.nil
  | _, _, n + 1, .cons h r => by simpa using RpAll.cons h (r.take n)
theorem RpAll.drop : ∀ {vs : List V} {ds : List D} (n : Nat), RpAll K F vs ds → RpAll K F (vs.drop n) (ds.drop n)
  | _, _, 0, h => by simpa using h
  | _, _, n + 1, .nil => by simpa using RpAll.nil
  | _, _, n + 1, .cons h r => by simpa using r.drop n
theorem RpAll.reverse : ∀ {vs : List V} {ds : List D}, RpAll K F vs ds → RpAll K F vs.reverse ds.reverse
  | _, _, .nil => by simpa using RpAll.nil
  | _, _, .cons h r => by simpa using r.reverse.append (.cons h .nil)
theorem RpAll.set : ∀ {vs : List V} {ds : List D} (i : Nat) {v : V} {d : D}, RpAll K F vs ds → Rp K F v d → RpAll K F (vs.set i v) (ds.set i d)
  | _, _, _, _, _, .nil, _ => by simpa using RpAll.nil
  | _, _, 0, _, _, .cons _ r, h => by simpa using RpAll.cons h r
  | _, _, i + 1, _, _, .cons q r, h => by simpa using RpAll.cons q (r.set i h)
theorem RpAll.erase : ∀ {vs : List V} {ds : List D} (i : Nat), RpAll K F vs ds → RpAll K F (vs.eraseIdx i) (ds.eraseIdx i)
  | _, _, _, .nil => by simpa using RpAll.nil
  | _, _, 0, .cons _ r => by simpa using r
  | _, _, i + 1, .cons q r => by simpa using RpAll.cons q (r.erase i)
theorem RpAll.rep {vs : List V} {ds : List D} (h : RpAll K F vs ds) : ∀ k : Nat, RpAll K F (List.replicate k vs).flatten (List.replicate k ds).flatten
  | 0 => by simpa using RpAll.nil
  | k + 1 => by simpa [List.replicate_succ] using h.append (h.rep k)
theorem RpAll.ints : ∀ (ns : List Int), RpAll K F (ns.map V.int) (ns.map PyData.int)
  | [] => .nil
  | n :: r => .cons (.int n) (RpAll.ints r)
theorem RpAll.dropLast {vs : List V} {ds : List D} (h : RpAll K F vs ds) : RpAll K F vs.dropLast ds.dropLast := by
  rw [List.dropLast_eq_take, List.dropLast_eq_take, h.length]; exact h.take _
end

/-- what stands at an own slot's address -/
def BoxIs (K : PySem.W.Frag) (F : Hp) (o : HO) : Box → Prop
  | .li l => ∃ vs, o = .lst vs ∧ RpAll K F vs l
  | .dk es => ∃ kvs, o = .dK kvs ∧ RpKs K F kvs es
  | .dt es => ∃ kvs, o = .dT kvs ∧ RpTs K F kvs es
theorem BoxIs.le {K : PySem.W.Frag} {F F' : Hp} {o : HO} {b : Box} (e : HLe F F') (h : BoxIs K F o b) : BoxIs K F' o b := by
  cases b with
  | li l => obtain ⟨vs, h1, h2⟩ := h; exact ⟨vs, h1, RpAll.le e h2⟩
  | dk l => obtain ⟨vs, h1, h2⟩ := h; exact ⟨vs, h1, RpKs.le e h2⟩
  | dt l => obtain ⟨vs, h1, h2⟩ := h; exact ⟨vs, h1, RpTs.le e h2⟩
/-- a list of one's own that may be read where it stands, or any datum -/
def Dq (K : PySem.W.Frag) (H F : Hp) (x : V) (d : D) : Prop := match d with
  | .list l => ∃ a vs, x = .ref a ∧ H a = some (.lst vs) ∧ RpAll K F vs l
  | .dict es => Rp K F x (.dict es) ∨ ∃ a, x = .ref a ∧ ((∃ kvs, H a = some (.dK kvs) ∧ RpKs K F kvs es) ∨ ∃ kvs, H a = some (.dT kvs) ∧ RpTs K F kvs es)
  | _ => Rp K F x d
theorem Rp.dq {K : PySem.W.Frag} {H F : Hp} {x : V} {d : D} (h : Rp K F x d) (fh : HLe F H) : Dq K H F x d := by
  cases h with
  | lst q r => exact ⟨_, _, rfl, fh _ _ q, r⟩
  | frl q r => exact .inl (.frl q r)
  | non => exact .non
  | bl b => exact .bl b
  | int i => exact .int i
  | str s => exact .str s
  | tup q r => exact .tup q r
  | dct q r => exact .inl (.dct q r)
  | dctT q r => exact .inl (.dctT q r)
theorem Dq.rp {K : PySem.W.Frag} {H F : Hp} {x : V} {d : D} (h : Dq K H F x d) (fh : HLe F H) (nd : ∀ es, d ≠ .dict es) : Rp K H x d := by
  cases d with
  | list l => obtain ⟨a, vs, rfl, q, r⟩ := h; exact .lst q (RpAll.le fh r)
  | dict es => exact absurd rfl (nd es)
  | _ => exact Rp.le fh (show Rp K F x _ from h)

/-! ### the state -/
structure Vx where
  K : PySem.W.Frag
  io : Nat → Option Addr
  W : WX
  cls : String → Value

def Own (K : PySem.W.Frag) (G H F : Hp) (a : Addr) (l : Box) : Prop := F a = none ∧ G a = none ∧ ∃ u, H a = some u ∧ BoxIs K F u l
def SlotOk (c : Vx) (G : Hp) (σ : L2.St) (H F : Hp) (i : Nat) : SV → Prop
  | .no => True
  | .val d => ∃ v, σ[i]? = some (some v) ∧ Rp c.K F v d
  | .lst l => ∃ a, σ[i]? = some (some (.ref a)) ∧ c.io i = none ∧ Own c.K G H F a l
  | .iol l => ∃ a, σ[i]? = some (some (.ref a)) ∧ c.io i = some a ∧ Own c.K G H F a l
def SV.owned : SV → Bool
  | .lst _ => true
  | .iol _ => true
  | _ => false
def OwnAt (ρ : Rho) (σ : L2.St) (i : Nat) (a : Addr) : Prop := (∃ s, ρ[i]? = some s ∧ s.owned = true) ∧ σ[i]? = some (some (.ref a))
structure Ok (c : Vx) (G : Hp) (ρ : Rho) (σ : L2.St) (H F : Hp) : Prop where
  fh : HLe F H
  gh : HLe G H
  len : ρ.length = σ.length
  slot : ∀ i s, ρ[i]? = some s → SlotOk c G σ H F i s
  apart : ∀ i j a, OwnAt ρ σ i a → OwnAt ρ σ j a → i = j
  ioc : ∀ i a, c.io i = some a → ∃ l, ρ[i]? = some (.iol l)
/-- F' is F with new data, none of them at what is guarded -/
structure Ext (G F F' : Hp) : Prop where
  le : HLe F F'
  new : ∀ b o, F' b = some o → F b = some o ∨ G b = none
theorem Ext.refl (G F : Hp) : Ext G F F := ⟨HLe.refl F, fun _ _ h => .inl h⟩
theorem Ext.trans {G A B C : Hp} (h : Ext G A B) (g : Ext G B C) : Ext G A C :=
  ⟨h.le.trans g.le, fun b o q => (g.new b o q).elim (h.new b o) .inr⟩
/-- new objects alone -/
structure Grow (H F H' F' : Hp) : Prop where
  hh : HLe H H'
  ff : HLe F F'
  fh : HLe F' H'
  new : ∀ b o, F' b = some o → F b = some o ∨ H b = none
theorem Grow.refl {H F : Hp} (h : HLe F H) : Grow H F H F := ⟨HLe.refl H, HLe.refl F, h, fun _ _ q => .inl q⟩
/-- a new datum at p -/
theorem Grow.new1 {H F : Hp} {p : Addr} {o : HO} (h : HLe F H) (n : H p = none) : Grow H F (upd H p o) (upd F p o) := by
  have nF : F p = none := h.free n
  refine ⟨HLe.put n, HLe.put nF, fun b u q => ?_, fun b u q => ?_⟩
  · by_cases e : b = p
    · subst e; rw [upd_same] at q ⊢; exact q
    · rw [upd_ne e] at q ⊢; exact h b u q
  · by_cases e : b = p
    · subst e; exact .inr n
    · rw [upd_ne e] at q; exact .inl q
section
variable {c : Vx} {G : Hp} {ρ : Rho} {σ : L2.St} {H F H' F' : Hp}
theorem Ok.own {i : Nat} {s : SV} (k : Ok c G ρ σ H F) (e : ρ[i]? = some s) (ho : s.owned = true) : ∃ a l, (s = .lst l ∨ s = .iol l) ∧ σ[i]? = some (some (.ref a)) ∧ Own c.K G H F a l ∧ OwnAt ρ σ i a := by
  have q := k.slot i s e
  cases s with
  | no => cases ho
  | val d => cases ho
  | lst l => obtain ⟨a, h1, _, h3⟩ := q; exact ⟨a, l, .inl rfl, h1, h3, ⟨_, e, ho⟩, h1⟩
  | iol l => obtain ⟨a, h1, _, h3⟩ := q; exact ⟨a, l, .inr rfl, h1, h3, ⟨_, e, ho⟩, h1⟩
theorem Own.grow {a : Addr} {l : Box} (o : Own c.K G H F a l) (g : Grow H F H' F') : Own c.K G H' F' a l := by
  obtain ⟨h1, h2, vs, h3, h4⟩ := o
  refine ⟨?_, h2, vs, g.hh _ _ h3, BoxIs.le g.ff h4⟩
  cases q : F' a with
  | none => rfl
  | some u =>
    rcases g.new a u q with z | z
    · rw [h1] at z; cases z
    · rw [h3] at z; cases z
theorem Ok.grow (k : Ok c G ρ σ H F) (g : Grow H F H' F') : Ok c G ρ σ H' F' where
  fh := g.fh
  gh := k.gh.trans g.hh
  len := k.len
  slot := fun i s e => by
    have q := k.slot i s e
    cases s with
    | no => trivial
    | val d => obtain ⟨v, h1, h2⟩ := q; exact ⟨v, h1, h2.le g.ff⟩
    | lst l => obtain ⟨a, h1, h2, h3⟩ := q; exact ⟨a, h1, h2, h3.grow g⟩
    | iol l => obtain ⟨a, h1, h2, h3⟩ := q; exact ⟨a, h1, h2, h3.grow g⟩
  apart := k.apart
  ioc := k.ioc
theorem Grow.ext (g : Grow H F H' F') (gh : HLe G H) : Ext G F F' := ⟨g.ff, fun b o q => (g.new b o q).elim .inl fun z => .inr (gh.free z)⟩
/-- G is kept where the heap has more -/
theorem Ok.reG {G' : Hp} (k : Ok c G ρ σ H F) (h : HLe G' H) (n : ∀ i a, OwnAt ρ σ i a → G' a = none) : Ok c G' ρ σ H F where
  fh := k.fh
  gh := h
  len := k.len
  slot := fun i s e => by
    have q := k.slot i s e
    cases s with
    | no => trivial
    | val d => exact q
    | lst l => obtain ⟨a, h1, h2, h3, _, h5⟩ := q; exact ⟨a, h1, h2, h3, n i a ⟨⟨_, e, rfl⟩, h1⟩, h5⟩
    | iol l => obtain ⟨a, h1, h2, h3, _, h5⟩ := q; exact ⟨a, h1, h2, h3, n i a ⟨⟨_, e, rfl⟩, h1⟩, h5⟩
  apart := k.apart
  ioc := k.ioc
theorem set_get {α : Type} {l : List α} {i j : Nat} {x y : α} (h : (l.set i x)[j]? = some y) : (j = i ∧ y = x ∧ i < l.length) ∨ (j ≠ i ∧ l[j]? = some y) := by
  by_cases e : i = j
  · subst e
    by_cases hl : i < l.length
    · rw [List.getElem?_set_self hl] at h; exact .inl ⟨rfl, (Option.some.inj h).symm, hl⟩
    · rw [List.getElem?_eq_none (by simpa using hl)] at h; cases h
  · rw [List.getElem?_set_ne e] at h; exact .inr ⟨Ne.symm e, h⟩
/-- a datum is stored at slot i -/
theorem Ok.set {i : Nat} {v : V} {d : D} (k : Ok c G ρ σ H F) (r : Rp c.K F v d) (hio : ∀ l, ρ[i]? ≠ some (.iol l)) : Ok c G (ρ.set i (.val d)) (σ.set i (some v)) H F where
  fh := k.fh
  gh := k.gh
  len := by simp [k.len]
  slot := fun j s e => by
    rcases set_get e with ⟨rfl, rfl, hl⟩ | ⟨hj, e⟩
    · exact ⟨v, List.getElem?_set_self (by rw [← k.len]; exact hl), r⟩
    · have q := k.slot j s e
      have z : (σ.set i (some v))[j]? = σ[j]? := List.getElem?_set_ne (Ne.symm hj)
      cases s with
      | no => trivial
      | val d => obtain ⟨v, h1, h2⟩ := q; exact ⟨v, z.trans h1, h2⟩
      | lst l => obtain ⟨a, h1, h2, h3⟩ := q; exact ⟨a, z.trans h1, h2, h3⟩
      | iol l => obtain ⟨a, h1, h2, h3⟩ := q; exact ⟨a, z.trans h1, h2, h3⟩
  apart := fun j m a ⟨⟨s, e1, o1⟩, h1⟩ ⟨⟨t, e2, o2⟩, h2⟩ => by
    rcases set_get e1 with ⟨rfl, rfl, hl⟩ | ⟨hj, e1⟩
    · cases o1
    · rcases set_get e2 with ⟨rfl, rfl, hl⟩ | ⟨hm, e2⟩
      · cases o2
      · rw [List.getElem?_set_ne (Ne.symm hj)] at h1
        rw [List.getElem?_set_ne (Ne.symm hm)] at h2
        exact k.apart j m a ⟨⟨s, e1, o1⟩, h1⟩ ⟨⟨t, e2, o2⟩, h2⟩
  ioc := fun j a e => by
    obtain ⟨l, q⟩ := k.ioc j a e
    have hj : j ≠ i := fun z => hio l (z ▸ q)
    exact ⟨l, by rw [List.getElem?_set_ne (Ne.symm hj)]; exact q⟩
/-- slot i is forgotten -/
theorem Ok.forget {i : Nat} {σ' : L2.St} (k : Ok c G ρ σ H F) (hio : ∀ l, ρ[i]? ≠ some (.iol l)) (hl : σ'.length = σ.length) (hs : ∀ j, j ≠ i → σ'[j]? = σ[j]?) : Ok c G (ρ.set i .no) σ' H F where
  fh := k.fh
  gh := k.gh
  len := by simp [k.len, hl]
  slot := fun j s e => by
    rcases set_get e with ⟨rfl, rfl, hl⟩ | ⟨hj, e⟩
    · trivial
    · have q := k.slot j s e
      have z : σ'[j]? = σ[j]? := hs j hj
      cases s with
      | no => trivial
      | val d => obtain ⟨v, h1, h2⟩ := q; exact ⟨v, z.trans h1, h2⟩
      | lst l => obtain ⟨a, h1, h2, h3⟩ := q; exact ⟨a, z.trans h1, h2, h3⟩
      | iol l => obtain ⟨a, h1, h2, h3⟩ := q; exact ⟨a, z.trans h1, h2, h3⟩
  apart := fun j m a ⟨⟨s, e1, o1⟩, h1⟩ ⟨⟨t, e2, o2⟩, h2⟩ => by
    rcases set_get e1 with ⟨rfl, rfl, hl⟩ | ⟨hj, e1⟩
    · cases o1
    · rcases set_get e2 with ⟨rfl, rfl, hl⟩ | ⟨hm, e2⟩
      · cases o2
      · rw [hs j hj] at h1
        rw [hs m hm] at h2
        exact k.apart j m a ⟨⟨s, e1, o1⟩, h1⟩ ⟨⟨t, e2, o2⟩, h2⟩
  ioc := fun j a e => by
    obtain ⟨l, q⟩ := k.ioc j a e
    have hj : j ≠ i := fun z => hio l (z ▸ q)
    exact ⟨l, by rw [List.getElem?_set_ne (Ne.symm hj)]; exact q⟩
end
end VL

set_option Elab.async false
set_option linter.all false
set_option autoImplicit false
set_option maxRecDepth 100000
namespace VL
open PySem PySem.Spec PyProof.Rows L2

/-! ### mirrors of expressions -/
def mPure {α : Type} (a : α) : M α := fun ρ => .ok a ρ
def mBind {α β : Type} (m : M α) (f : α → M β) : M β := fun ρ => match m ρ with
  | .ok a ρ' => f a ρ'
  | .exc x ρ' => .exc x ρ'
  | .bad => .bad
def mConst (d : D) : M R := fun ρ => .ok (.v d) ρ
def mVar (i : Nat) : M R := fun ρ => match ρ[i]? with
  | some (.val d) => .ok (.v d) ρ
  | some (.lst _) => .ok (.b i) ρ
  | some (.iol _) => .ok (.b i) ρ
  | _ => .bad
def look (ρ : Rho) : R → Option D
  | .v d => some d
  | .b i => match ρ[i]? with
    | some (.val d) => some d
    | some (.lst l) => some l.data
    | some (.iol l) => some l.data
    | _ => none
def looks (ρ : Rho) : List R → Option (List D)
  | [] => some []
  | r :: rs => match look ρ r, looks ρ rs with
    | some d, some ds => some (d :: ds)
    | _, _ => none
def fin1 (ρ : Rho) : Option D → Res R
  | some d => .ok (.v d) ρ
  | none => .bad
def mOp1 (g : D → Option D) (m : M R) : M R := mBind m fun r ρ => match look ρ r with
  | some d => fin1 ρ (g d)
  | none => .bad
def mOp2 (g : D → D → Option D) (m n : M R) : M R := mBind m fun r => mBind n fun u ρ => match look ρ r, look ρ u with
  | some d, some e => fin1 ρ (g d e)
  | _, _ => .bad
def mOpN (g : List D → Option D) (ms : M (List R)) : M R := mBind ms fun rs ρ => match looks ρ rs with
  | some ds => fin1 ρ (g ds)
  | none => .bad
def mNil : M (List R) := mPure []
def mCons (m : M R) (ms : M (List R)) : M (List R) := mBind m fun r => mBind ms fun rs => mPure (r :: rs)
/-- a slot's own list becomes a datum -/
def frz (ρ : Rho) : R → Res D
  | .v d => .ok d ρ
  | .b i => match ρ[i]? with
    | some (.val d) => .ok d ρ
    | some (.lst l) => .ok l.data (ρ.set i (.val l.data))
    | _ => .bad
def mFrz (m : M R) : M D := mBind m fun r ρ => frz ρ r
def mFrzs : M (List R) → M (List D) := fun ms => mBind ms fun rs ρ => go rs ρ
where go : List R → Rho → Res (List D)
  | [], ρ => .ok [] ρ
  | r :: rs, ρ => match frz ρ r with
    | .ok d ρ1 => (match go rs ρ1 with
      | .ok ds ρ2 => .ok (d :: ds) ρ2
      | .exc x ρ2 => .exc x ρ2
      | .bad => .bad)
    | .exc x ρ1 => .exc x ρ1
    | .bad => .bad

/-! ### readings -/
def Wn {α β : Type} (c : Vx) (G : Hp) (σ : L2.St) (F : Hp) (rep : Rho → Hp → α → β → Prop) (Q : β → Hp → Prop) : Res α → Prop
  | .ok a ρ' => ∀ v H' F', Ext G F F' → Ok c G ρ' σ H' F' → rep ρ' F' a v → Q v H'
  | .exc x ρ' => ∀ H' F', Ext G F F' → Ok c G ρ' σ H' F' → c.W (c.cls x) none σ H'
  | .bad => False
def RepR (c : Vx) (σ : L2.St) (_ : Rho) (F : Hp) (r : R) (x : V) : Prop := match r with
  | .v d => Rp c.K F x d
  | .b i => σ[i]? = some (some x)
def RepRs (c : Vx) (σ : L2.St) (ρ : Rho) (F : Hp) : List R → List V → Prop
  | [], [] => True
  | r :: rs, x :: xs => RepR c σ ρ F r x ∧ RepRs c σ ρ F rs xs
  | _, _ => False
def RepD (c : Vx) (_ : Rho) (F : Hp) (d : D) (x : V) : Prop := Rp c.K F x d
def RepDs (c : Vx) (_ : Rho) (F : Hp) (ds : List D) (xs : List V) : Prop := RpAll c.K F xs ds
def RepB (_ : Rho) (_ : Hp) (b b' : Bool) : Prop := b' = b
def tX {α β : Type} (c : Vx) (m : M α) (rep : Rho → Hp → α → β → Prop) (σ : L2.St) (H : Hp) (Q : β → Hp → Prop) : Prop := ∃ ρ F G, Ok c G ρ σ H F ∧ Wn c G σ F rep Q (m ρ)
def tM (c : Vx) (m : M R) : TE := fun σ H Q => ∃ ρ F G, Ok c G ρ σ H F ∧ Wn c G σ F (RepR c σ) Q (m ρ)
def tD (c : Vx) (m : M D) : TE := fun σ H Q => ∃ ρ F G, Ok c G ρ σ H F ∧ Wn c G σ F (RepD c) Q (m ρ)
def tA (c : Vx) (m : M (List R)) : TA := fun σ H Q => ∃ ρ F G, Ok c G ρ σ H F ∧ Wn c G σ F (RepRs c σ) Q (m ρ)
def tDs (c : Vx) (m : M (List D)) : TA := fun σ H Q => ∃ ρ F G, Ok c G ρ σ H F ∧ Wn c G σ F (RepDs c) Q (m ρ)
def tT (c : Vx) (m : M Bool) : TT := fun σ H Q => ∃ ρ F G, Ok c G ρ σ H F ∧ Wn c G σ F RepB Q (m ρ)

section
variable {X : Cx} {c : Vx} {G : Hp} {ρ : Rho} {σ : L2.St} {H F F1 : Hp}
theorem pe_weak {e : Expr} {t t' : TE} (h : PE X e t) (w : ∀ σ H Q, t' σ H Q → t σ H Q) : PE X e t' := ⟨fun pins s σ H Q I q => h.run pins s σ H Q I (w σ H Q q)⟩
theorem pt_weak {e : Expr} {t t' : TT} (h : PT X e t) (w : ∀ σ H Q, t' σ H Q → t σ H Q) : PT X e t' := ⟨fun pins s σ H Q I q => h.run pins s σ H Q I (w σ H Q q)⟩
theorem pw_weak {e : Expr} {t t' : TT} (h : PW X e t) (w : ∀ σ H Q, t' σ H Q → t σ H Q) : PW X e t' := ⟨fun wh pins s σ H Q I q => h.run wh pins s σ H Q I (w σ H Q q)⟩
theorem pa_weak {es : List Expr} {t t' : TA} (h : PA X es t) (w : ∀ σ H Q, t' σ H Q → t σ H Q) : PA X es t' := ⟨fun pos pins s σ H Q I q => h.run pos pins s σ H Q I (w σ H Q q)⟩
theorem ps_weak {st : Stmt} {t t' : TS} (h : PS X st t) (w : ∀ D σ H, t' D σ H → t D σ H) : PS X st t' := ⟨fun pins s σ H D I q => h.run pins s σ H D I (w D σ H q)⟩
theorem pss_weak {st : List Stmt} {t t' : TS} (h : PSs X st t) (w : ∀ D σ H, t' D σ H → t D σ H) : PSs X st t' := ⟨fun pins s σ H D I q => h.run pins s σ H D I (w D σ H q)⟩

variable {α β α' β' : Type} {rep : Rho → Hp → α → β → Prop} {rep' : Rho → Hp → α' → β' → Prop}
theorem Wn.ext {Q : β → Hp → Prop} {r : Res α} (h : Wn c G σ F rep Q r) (e : Ext G F F1) : Wn c G σ F1 rep Q r := by
  cases r with
  | bad => exact h
  | exc x ρ' => exact fun H' F' e' k => h H' F' (e.trans e') k
  | ok a ρ' => exact fun v H' F' e' k => h v H' F' (e.trans e') k
theorem Wn.imp {Q Q' : β → Hp → Prop} {r : Res α} (h : Wn c G σ F rep Q r) (w : ∀ v H', Q v H' → Q' v H') : Wn c G σ F rep Q' r := by
  cases r with
  | bad => exact h
  | exc x ρ' => exact h
  | ok a ρ' => exact fun v H' F' e' k q => w _ _ (h v H' F' e' k q)
/-- what is known behind the first part -/
def Cont (c : Vx) (G : Hp) (σ : L2.St) (F : Hp) (rep : Rho → Hp → α → β → Prop) (rep' : Rho → Hp → α' → β' → Prop) (f : α → M α') (Q : β' → Hp → Prop) (v : β) (H1 : Hp) : Prop :=
  ∃ ρ1 F1 a, Ext G F F1 ∧ Ok c G ρ1 σ H1 F1 ∧ rep ρ1 F1 a v ∧ Wn c G σ F1 rep' Q (f a ρ1)
theorem Wn.bind {m : M α} {f : α → M α'} {Q : β' → Hp → Prop} (h : Wn c G σ F rep' Q (mBind m f ρ)) : Wn c G σ F rep (Cont c G σ F rep rep' f Q) (m ρ) := by
  unfold mBind at h
  cases q : m ρ with
  | bad => rw [q] at h; exact h
  | exc x ρ' => rw [q] at h; exact h
  | ok a ρ' => rw [q] at h; exact fun v H' F' e k r => ⟨ρ', F', a, e, k, r, h.ext e⟩
theorem Wn.pure {a : α} {Q : β → Hp → Prop} {v : β} (h : Wn c G σ F rep Q (mPure a ρ)) (k : Ok c G ρ σ H F) (r : rep ρ F a v) : Q v H := h v H F (Ext.refl G F) k r

theorem RepR.mono {r : R} {x : V} {ρ' : Rho} {F' : Hp} (h : RepR c σ ρ F r x) (e : HLe F F') : RepR c σ ρ' F' r x := by
  cases r with
  | v d => exact Rp.le e h
  | b i => exact h
theorem RepRs.mono {F' : Hp} {ρ' : Rho} (e : HLe F F') : ∀ {rs : List R} {xs : List V}, RepRs c σ ρ F rs xs → RepRs c σ ρ' F' rs xs
  | [], [], _ => trivial
  | _ :: _, _ :: _, h => ⟨RepR.mono h.1 e, RepRs.mono e h.2⟩
  | [], _ :: _, h => h.elim
  | _ :: _, [], h => h.elim
theorem box_dq {K : PySem.W.Frag} {a : Addr} {u : HO} {l : Box} (h4 : H a = some u) (h5 : BoxIs K F u l) : Dq K H F (.ref a) l.data := by
  cases l with
  | li l => obtain ⟨vs, rfl, r⟩ := h5; exact ⟨a, vs, rfl, h4, r⟩
  | dk l => obtain ⟨vs, rfl, r⟩ := h5; exact .inr ⟨a, rfl, .inl ⟨vs, h4, r⟩⟩
  | dt l => obtain ⟨vs, rfl, r⟩ := h5; exact .inr ⟨a, rfl, .inr ⟨vs, h4, r⟩⟩
theorem look_dq {r : R} {x : V} {d : D} (k : Ok c G ρ σ H F) (h : RepR c σ ρ F r x) (e : look ρ r = some d) : Dq c.K H F x d := by
  cases r with
  | v d' =>
    have e' : d' = d := Option.some.inj e
    subst e'
    exact Rp.dq h k.fh
  | b i =>
    have h' : σ[i]? = some (some x) := h
    unfold look at e
    cases q : ρ[i]? with
    | none => simp [q] at e
    | some s =>
      have z := k.slot i s q
      cases s with
      | no => simp [q] at e
      | val d' =>
        simp [q] at e
        subst e
        obtain ⟨v, h1, h2⟩ := z
        rw [h'] at h1; cases h1
        exact Rp.dq h2 k.fh
      | lst l =>
        simp [q] at e
        subst e
        obtain ⟨a, h1, _, _, _, vs, h4, h5⟩ := z
        rw [h'] at h1; cases h1
        exact box_dq h4 h5
      | iol l =>
        simp [q] at e
        subst e
        obtain ⟨a, h1, _, _, _, vs, h4, h5⟩ := z
        rw [h'] at h1; cases h1
        exact box_dq h4 h5
/-- several -/
inductive DqAll (K : PySem.W.Frag) (H F : Hp) : List V → List D → Prop
  | nil : DqAll K H F [] []
  | cons {v : V} {vs : List V} {d : D} {ds : List D} : Dq K H F v d → DqAll K H F vs ds → DqAll K H F (v :: vs) (d :: ds)
theorem looks_dq (k : Ok c G ρ σ H F) : ∀ {rs : List R} {xs : List V} {ds : List D}, RepRs c σ ρ F rs xs → looks ρ rs = some ds → DqAll c.K H F xs ds
  | [], [], ds, _, e => by
    have : ([] : List D) = ds := Option.some.inj e
    subst this; exact .nil
  | r :: rs, x :: xs, ds, h, e => by
    unfold looks at e
    cases q1 : look ρ r with
    | none => simp [q1] at e
    | some d =>
      cases q2 : looks ρ rs with
      | none => simp [q1, q2] at e
      | some es =>
        simp [q1, q2] at e
        subst e
        exact .cons (look_dq k h.1 q1) (looks_dq k h.2 q2)
  | [], _ :: _, _, h, _ => h.elim
  | _ :: _, [], _, h, _ => h.elim

/-! ### pure operations by values -/
def Sim1 (K : PySem.W.Frag) (r : V → Hp → VK → Prop) (g : D → Option D) : Prop :=
  ∀ x H F d d' Q, HLe F H → Dq K H F x d → g d = some d' → (∀ v H' F', Grow H F H' F' → Rp K F' v d' → Q v H') → r x H Q
def Sim2 (K : PySem.W.Frag) (r : R2) (g : D → D → Option D) : Prop :=
  ∀ x y H F d e d' Q, HLe F H → Dq K H F x d → Dq K H F y e → g d e = some d' → (∀ v H' F', Grow H F H' F' → Rp K F' v d' → Q v H') → r x y H Q
def SimN (K : PySem.W.Frag) (r : List V → Hp → VK → Prop) (g : List D → Option D) : Prop :=
  ∀ xs H F ds d' Q, HLe F H → DqAll K H F xs ds → g ds = some d' → (∀ v H' F', Grow H F H' F' → Rp K F' v d' → Q v H') → r xs H Q
theorem fin1_ok {o : Option D} {Q : VK} (h : Wn c G σ F (RepR c σ) Q (fin1 ρ o)) (k : Ok c G ρ σ H F) : ∃ d, o = some d ∧ ∀ v H' F', Grow H F H' F' → Rp c.K F' v d → Q v H' := by
  cases o with
  | none => exact h.elim
  | some d => exact ⟨d, rfl, fun v H' F' g r => h v H' F' (g.ext k.gh) (k.grow g) r⟩
theorem op1_end {g : D → Option D} {r : V → Hp → VK → Prop} {Q : VK} {x : V} {u : R} (sim : Sim1 c.K r g) (k : Ok c G ρ σ H F) (hr : RepR c σ ρ F u x)
    (h : Wn c G σ F (RepR c σ) Q (match look ρ u with | some d => fin1 ρ (g d) | none => .bad)) : r x H Q := by
  cases q : look ρ u with
  | none => simp only [q] at h; exact h.elim
  | some d =>
    simp only [q] at h
    obtain ⟨d', e, f⟩ := fin1_ok h k
    exact sim x H F d d' Q k.fh (look_dq k hr q) e f
theorem op2_end {g : D → D → Option D} {r : R2} {Q : VK} {x y : V} {u u' : R} (sim : Sim2 c.K r g) (k : Ok c G ρ σ H F) (hr : RepR c σ ρ F u x) (hr' : RepR c σ ρ F u' y)
    (h : Wn c G σ F (RepR c σ) Q (match look ρ u, look ρ u' with | some d, some e => fin1 ρ (g d e) | _, _ => .bad)) : r x y H Q := by
  cases q : look ρ u with
  | none => simp only [q] at h; exact h.elim
  | some d =>
    cases q' : look ρ u' with
    | none => simp only [q, q'] at h; exact h.elim
    | some e =>
      simp only [q, q'] at h
      obtain ⟨d', e', f⟩ := fin1_ok h k
      exact sim x y H F d e d' Q k.fh (look_dq k hr q) (look_dq k hr' q') e' f
theorem opN_end {g : List D → Option D} {r : List V → Hp → VK → Prop} {Q : VK} {xs : List V} {us : List R} (sim : SimN c.K r g) (k : Ok c G ρ σ H F) (hr : RepRs c σ ρ F us xs)
    (h : Wn c G σ F (RepR c σ) Q (match looks ρ us with | some ds => fin1 ρ (g ds) | none => .bad)) : r xs H Q := by
  cases q : looks ρ us with
  | none => simp only [q] at h; exact h.elim
  | some ds =>
    simp only [q] at h
    obtain ⟨d', e, f⟩ := fin1_ok h k
    exact sim xs H F ds d' Q k.fh (looks_dq k hr q) e f
/-- two operands, one behind the other -/
theorem two_of {m n : M R} {f : R → R → Rho → Res α'} {Q : β' → Hp → Prop} (h : tX c (mBind m fun r => mBind n fun u => f r u) rep' σ H Q) :
    tM c m σ H fun x H1 => tM c n σ H1 fun y H2 => ∃ ρ F G r u, Ok c G ρ σ H2 F ∧ RepR c σ ρ F r x ∧ RepR c σ ρ F u y ∧ Wn c G σ F rep' Q (f r u ρ) := by
  obtain ⟨ρ, F, G, k, h⟩ := h
  refine ⟨ρ, F, G, k, (Wn.bind (rep := RepR c σ) h).imp fun x H1 ⟨ρ1, F1, r, e1, k1, r1, h1⟩ => ?_⟩
  refine ⟨ρ1, F1, G, k1, (Wn.bind (rep := RepR c σ) h1).imp fun y H2 ⟨ρ2, F2, u, e2, k2, r2, h2⟩ => ?_⟩
  exact ⟨ρ2, F2, G, r, u, k2, r1.mono e2.le, r2, h2⟩
theorem one_of {m : M R} {f : R → Rho → Res α'} {Q : β' → Hp → Prop} (h : tX c (mBind m f) rep' σ H Q) :
    tM c m σ H fun x H1 => ∃ ρ F G r, Ok c G ρ σ H1 F ∧ RepR c σ ρ F r x ∧ Wn c G σ F rep' Q (f r ρ) := by
  obtain ⟨ρ, F, G, k, h⟩ := h
  exact ⟨ρ, F, G, k, (Wn.bind (rep := RepR c σ) h).imp fun x H1 ⟨ρ1, F1, r, e1, k1, r1, h1⟩ => ⟨ρ1, F1, G, r, k1, r1, h1⟩⟩
theorem many_of {m : M (List R)} {f : List R → Rho → Res α'} {Q : β' → Hp → Prop} (h : tX c (mBind m f) rep' σ H Q) :
    tA c m σ H fun xs H1 => ∃ ρ F G rs, Ok c G ρ σ H1 F ∧ RepRs c σ ρ F rs xs ∧ Wn c G σ F rep' Q (f rs ρ) := by
  obtain ⟨ρ, F, G, k, h⟩ := h
  exact ⟨ρ, F, G, k, (Wn.bind (rep := RepRs c σ) h).imp fun x H1 ⟨ρ1, F1, r, e1, k1, r1, h1⟩ => ⟨ρ1, F1, G, r, k1, r1, h1⟩⟩

variable {a b e : Expr} {es : List Expr} {pos : Pos} {m n : M R}
theorem ve_op {op : Operator} {r : R2} {g : D → D → Option D} (ho : OpR X (binaryOp op) r) (sim : Sim2 c.K r g) (ha : PE X a (tM c m)) (hb : PE X b (tM c n)) : PE X (.BinOp a op b pos) (tM c (mOp2 g m n)) :=
  pe_weak (pe_op ho ha hb) fun σ H Q h => by
    obtain ⟨ρ, F, G, k, h⟩ := two_of h
    exact ⟨ρ, F, G, k, h.imp fun x H1 ⟨ρ1, F1, G1, k1, h1⟩ => ⟨ρ1, F1, G1, k1, h1.imp fun y H2 ⟨ρ2, F2, G2, r, u, k2, r1, r2, h2⟩ => op2_end sim k2 r1 r2 h2⟩⟩
theorem ve_un {op : UnaryOp} {r : V → Hp → VK → Prop} {g : D → Option D} (ho : UnR X (unaryOp op) r) (sim : Sim1 c.K r g) (ha : PE X a (tM c m)) : PE X (.UnaryOp op a pos) (tM c (mOp1 g m)) :=
  pe_weak (pe_un ho ha) fun σ H Q h => by
    obtain ⟨ρ, F, G, k, h⟩ := one_of h
    exact ⟨ρ, F, G, k, h.imp fun x H1 ⟨ρ1, F1, G1, r, k1, r1, h1⟩ => op1_end sim k1 r1 h1⟩
theorem ve_cmp {op : CmpOp} {r : R2} {g : D → D → Option D} (ho : OpR X (compareOp op) r) (sim : Sim2 c.K r g) (ha : PE X a (tM c m)) (hb : PE X b (tM c n)) (hm : behindInMarks op b = false) : PE X (.Compare a [op] [b] pos) (tM c (mOp2 g m n)) :=
  pe_weak (pe_cmpR ho ha hb hm) fun σ H Q h => by
    obtain ⟨ρ, F, G, k, h⟩ := two_of h
    exact ⟨ρ, F, G, k, h.imp fun x H1 ⟨ρ1, F1, G1, k1, h1⟩ => ⟨ρ1, F1, G1, k1, h1.imp fun y H2 ⟨ρ2, F2, G2, r, u, k2, r1, r2, h2⟩ => op2_end sim k2 r1 r2 h2⟩⟩
theorem ve_ix {r : R2} {g : D → D → Option D} (ho : IxR X r) (sim : Sim2 c.K r g) (ha : PE X a (tM c m)) (hb : PE X b (tM c n)) (hs : PlainIx b) : PE X (.Subscript a b pos) (tM c (mOp2 g m n)) :=
  pe_weak (pe_ix ho ha hb hs) fun σ H Q h => by
    obtain ⟨ρ, F, G, k, h⟩ := two_of h
    exact ⟨ρ, F, G, k, h.imp fun x H1 ⟨ρ1, F1, G1, k1, h1⟩ => ⟨ρ1, F1, G1, k1, h1.imp fun y H2 ⟨ρ2, F2, G2, r, u, k2, r1, r2, h2⟩ => op2_end sim k2 r1 r2 h2⟩⟩
theorem ve_var {i : Nat} (h : PE X e (tVar i)) : PE X e (tM c (mVar i)) :=
  pe_weak h fun σ H Q ⟨ρ, F, G, k, h⟩ => by
    unfold mVar at h
    cases q : ρ[i]? with
    | none => simp only [q] at h; exact h.elim
    | some s =>
      have z := k.slot i s q
      cases s with
      | no => simp only [q] at h; exact h.elim
      | val d =>
        simp only [q] at h
        obtain ⟨v, h1, h2⟩ := z
        exact ⟨v, h1, h v H F (Ext.refl G F) k h2⟩
      | lst l =>
        simp only [q] at h
        obtain ⟨v, h1, h2⟩ := z
        exact ⟨_, h1, h _ H F (Ext.refl G F) k h1⟩
      | iol l =>
        simp only [q] at h
        obtain ⟨v, h1, h2⟩ := z
        exact ⟨_, h1, h _ H F (Ext.refl G F) k h1⟩
theorem ve_const {v : V} {d : D} (h : PE X e (tC v)) (r : ∀ F, Rp c.K F v d) : PE X e (tM c (mConst d)) :=
  pe_weak h fun σ H Q ⟨ρ, F, G, k, h⟩ => h v H F (Ext.refl G F) k (r F)
theorem va_nil : PA X [] (tA c mNil) := pa_weak pa_nil fun σ H Q ⟨ρ, F, G, k, h⟩ => h [] H F (Ext.refl G F) k trivial
theorem va_cons {ms : M (List R)} (ha : PE X e (tM c m)) (hr : PA X es (tA c ms)) (hs : starEach (e :: es) X.env = (false, eval e X.env) :: starEach es X.env := by rfl) : PA X (e :: es) (tA c (mCons m ms)) :=
  pa_weak (pa_cons ha hr hs) fun σ H Q ⟨ρ, F, G, k, h⟩ => by
    refine ⟨ρ, F, G, k, (Wn.bind (rep := RepR c σ) h).imp fun x H1 ⟨ρ1, F1, r, e1, k1, r1, h1⟩ => ?_⟩
    refine ⟨ρ1, F1, G, k1, (Wn.bind (rep := RepRs c σ) h1).imp fun xs H2 ⟨ρ2, F2, rs, e2, k2, r2, h2⟩ => ?_⟩
    exact h2 (x :: xs) H2 F2 (Ext.refl G F2) k2 ⟨r1.mono e2.le, r2⟩
theorem ve_callB {x : Str} {id : String} {p : Pos} {r : List V → Hp → VK → Prop} {g : List D → Option D} {ms : M (List R)} (hc : CallR X (.builtin id) r) (sim : SimN c.K r g) (hg : Gl X x) (hm : X.mg x = none) (hv : bootBuiltins x = some (.builtin id)) (ha : PA X (e :: es) (tA c ms)) (hn : x ≠ "__name__" := by decide) (hdb : (x == ("__debug__" : Str)) = false := by decide)
    (he : starEach (e :: es) X.env = (false, eval e X.env) :: starEach es X.env := by rfl) (hpl : (backTo pos (starEach es X.env)).any (·.1) = false := by rfl) : PE X (.Call (.Name x p) (e :: es) [] pos) (tM c (mOpN g ms)) :=
  pe_weak (pe_callB hc hg hm hv ha hn hdb he hpl) fun σ H Q h => by
    obtain ⟨ρ, F, G, k, h⟩ := many_of h
    exact ⟨ρ, F, G, k, h.imp fun xs H1 ⟨ρ1, F1, G1, rs, k1, r1, h1⟩ => opN_end sim k1 r1 h1⟩
theorem ve_callTy {x : Str} {T : String} {p : Pos} {r : List V → Hp → VK → Prop} {g : List D → Option D} {ms : M (List R)} (hc : CallR X (.type T) r) (sim : SimN c.K r g) (hg : Gl X x) (hm : X.mg x = none) (hv : bootBuiltins x = some (.type T)) (ha : PA X (e :: es) (tA c ms)) (hn : x ≠ "__name__" := by decide) (hdb : (x == ("__debug__" : Str)) = false := by decide)
    (he : starEach (e :: es) X.env = (false, eval e X.env) :: starEach es X.env := by rfl) (hpl : (backTo pos (starEach es X.env)).any (·.1) = false := by rfl) : PE X (.Call (.Name x p) (e :: es) [] pos) (tM c (mOpN g ms)) :=
  pe_weak (pe_callTy hc hg hm hv ha hn hdb he hpl) fun σ H Q h => by
    obtain ⟨ρ, F, G, k, h⟩ := many_of h
    exact ⟨ρ, F, G, k, h.imp fun xs H1 ⟨ρ1, F1, G1, rs, k1, r1, h1⟩ => opN_end sim k1 r1 h1⟩
end
end VL

set_option Elab.async false
set_option linter.all false
set_option autoImplicit false
set_option maxRecDepth 100000
namespace VL
open PySem PySem.Spec PyProof.Rows L2

/-! ### truth, tests -/
def truthD : D → Option Bool
  | .none => some false
  | .bool b => some b
  | .int i => some (i != 0)
  | .str x => if x.length ≤ sizeLine then some ((x.length : Int) != 0) else none
  | .list l => some (!l.isEmpty)
  | .tuple l => some (!l.isEmpty)
  | .dict _ => none
/-- .. of a dict, too -/
def isNo : D → Bool
  | .none => true
  | _ => false
def truthE : D → Option Bool
  | .dict [] => some false
  | .dict ((k, _) :: _) => if isNo k = true then none else some true
  | d => truthD d
def mTruV (m : M R) : M Bool := mBind m fun r ρ => match look ρ r with
  | some d => (match truthD d with
    | some b => .ok b ρ
    | none => .bad)
  | none => .bad
def mTru (m : M R) : M Bool := mBind m fun r ρ => match look ρ r with
  | some d => (match truthE d with
    | some b => .ok b ρ
    | none => .bad)
  | none => .bad
def mB (m : M R) : M Bool := mBind m fun r ρ => match r with
  | .v (.bool b) => .ok b ρ
  | _ => .bad
def mNotT (m : M Bool) : M Bool := mBind m fun b => mPure (!b)
def mAndT (m n : M Bool) : M Bool := mBind m fun b => if b = true then n else mPure false
def mOrT (m n : M Bool) : M Bool := mBind m fun b => if b = true then mPure true else n
def mNot (m : M R) : M R := mBind (mTruV m) fun b => mPure (.v (.bool (!b)))
def mAnd (m n : M R) : M R := mBind m fun r ρ => match look ρ r with
  | some d => (match truthD d with
    | some true => n ρ
    | some false => .ok r ρ
    | none => .bad)
  | none => .bad
def mOr (m n : M R) : M R := mBind m fun r ρ => match look ρ r with
  | some d => (match truthD d with
    | some true => .ok r ρ
    | some false => n ρ
    | none => .bad)
  | none => .bad
def mIf {α : Type} (t : M Bool) (m n : M α) : M α := mBind t fun b => if b = true then m else n

section
variable {X : Cx} {c : Vx} {G : Hp} {ρ : Rho} {σ : L2.St} {H F F1 : Hp}
variable {a b e : Expr} {es rest : List Expr} {pos : Pos} {m n : M R} {mt nt : M Bool}
theorem isEmpty_rp {K : PySem.W.Frag} {F : Hp} {vs : List V} {ds : List D} (h : RpAll K F vs ds) : vs.isEmpty = ds.isEmpty := by
  cases h <;> rfl
theorem truth_tru {K : PySem.W.Frag} {x : V} {d : D} {k : Bool} (fh : HLe F H) (h : Dq K H F x d) (e : truthD d = some k) : TruV K x H k := by
  cases d with
  | none => cases h; cases e; rfl
  | bool b => cases h; cases e; rfl
  | int i => cases h; cases e; rfl
  | str s =>
    cases h
    have e' : (if s.length ≤ sizeLine then some ((s.length : Int) != 0) else none) = some k := e
    by_cases hl : s.length ≤ sizeLine
    · rw [if_pos hl] at e'; exact ⟨hl, (Option.some.inj e').symm⟩
    · rw [if_neg hl] at e'; cases e'
  | list l =>
    obtain ⟨p, vs, rfl, q, r⟩ := h
    cases e
    exact .inl ⟨vs, SqL.of q, by rw [isEmpty_rp r]⟩
  | tuple l =>
    cases h with
    | tup q r =>
      cases e
      exact .inr (.inl ⟨_, SqT.le fh q, by rw [isEmpty_rp r]⟩)
  | dict l => cases e
/-- the truth of what was reckoned -/
theorem tru_end {Q : Bool → Hp → Prop} {x : V} {u : R} (k : Ok c G ρ σ H F) (hr : RepR c σ ρ F u x)
    (h : Wn c G σ F RepB Q (match look ρ u with | some d => (match truthD d with | some b => .ok b ρ | none => .bad) | none => .bad)) : ∃ k, TruV c.K x H k ∧ Q k H := by
  cases q : look ρ u with
  | none => simp only [q] at h; exact h.elim
  | some d =>
    simp only [q] at h
    cases q' : truthD d with
    | none => simp only [q'] at h; exact h.elim
    | some b =>
      simp only [q'] at h
      exact ⟨b, truth_tru k.fh (look_dq k hr q) q', h b H F (Ext.refl G F) k rfl⟩
/-- a dict's truth -/
theorem truthy_dT {prog : Program} {w : World} {κ : Type} [DecidableEq κ] {knd : HeapKind prog w κ} {A : Around} {E : Value → Shared → Prop} {s : Shared} {d : Addr} {xs : List (κ × Addr × Value)} {Q : Bool → Shared → Prop} (hd : (d == sysModules) = false) (hm : s.heap.DictOfH knd d xs) (hfit : (xs.length : Int) < 2 ^ 63)
    (h : Q (!xs.isEmpty) { s with toks := s.toks + 1 + 1 }) : wpAny (model prog w) A (truthy (.ref d)) Q E s := by
  have hne : ((xs.length : Int) != 0) = !xs.isEmpty := by cases xs <;> simp <;> omega
  have key : wpAny (model prog w) A (runValue (.builtin "len" ⟨[.ref d], []⟩)) (fun r s' => r = .int xs.length (s.toks + 1) ∧ Q (!xs.isEmpty) s') E s := by
    refine wpAny_runValue (codeAny_builtin entry_len ?_)
    rw [Around.under_plainId plain_len _]
    exact wpAny_mono (wpAny_len_body_dictH (Q := fun r s' => r = .int xs.length (s.toks + 1) ∧ Q (!xs.isEmpty) s') hd hm hfit ⟨rfl, h⟩)
      (fun fin s' h' => by obtain ⟨r, rfl, hq⟩ := h'; exact hq) fun _ _ e => e
  unfold truthy
  refine wpAny_bind (wpAny_callSpecial?_none (name := Str.ofString "__bool__") hm.typeIs noBool_dict ?_)
  refine wpAny_bind (wpAny_specialOf (name := Str.ofString "__len__") hm.typeIs F.slot_dict_len.lookup ?_)
  exact wpAny_bind (wpAny_mono key (fun r s' h' => by obtain ⟨rfl, hq⟩ := h'; exact wpAny_pure (hne ▸ hq)) fun _ _ e => e)
def TruW (K : PySem.W.Frag) (x : V) (H : Hp) (k : Bool) : Prop := TruV K x H k ∨ ∃ a, x = .ref a ∧ ((∃ kvs, Rd H a (.dK kvs) ∧ k = !kvs.isEmpty) ∨ ∃ kvs, Rd H a (.dT kvs) ∧ k = !kvs.isEmpty)
theorem truE_tru {K : PySem.W.Frag} {x : V} {d : D} {k : Bool} (fh : HLe F H) (h : Dq K H F x d) (e : truthE d = some k) : TruW K x H k := by
  by_cases hd : ∃ es, d = .dict es
  · obtain ⟨es, rfl⟩ := hd
    have e' : k = !es.isEmpty ∧ ∀ l, es ≠ [(.none, l)] := by
      cases es with
      | nil => cases e; exact ⟨rfl, fun l z => by cases z⟩
      | cons p r =>
        obtain ⟨p, q⟩ := p
        have e : (if isNo p = true then none else some true) = some k := e
        by_cases hp : isNo p = true
        · rw [if_pos hp] at e; cases e
        · rw [if_neg hp] at e; cases e; exact ⟨rfl, fun l z => by cases z; exact hp rfl⟩
    obtain ⟨rfl, hn⟩ := e'
    have m1 : ∀ {kvs : List (Key × V)}, RpKs K F kvs es → kvs.isEmpty = es.isEmpty := fun r => by cases r <;> rfl
    have m2 : ∀ {kvs : List (List Key × V)}, RpTs K F kvs es → kvs.isEmpty = es.isEmpty := fun r => by cases r <;> rfl
    rcases h with h | ⟨a, rfl, ⟨kvs, q, r⟩ | ⟨kvs, q, r⟩⟩
    · cases h with
      | frl q r => exact absurd rfl (hn _)
      | dct q r => exact .inr ⟨_, rfl, .inl ⟨_, .inr ⟨_, fh _ _ q⟩, by rw [m1 r]⟩⟩
      | dctT q r => exact .inr ⟨_, rfl, .inr ⟨_, .inr ⟨_, fh _ _ q⟩, by rw [m2 r]⟩⟩
    · exact .inr ⟨_, rfl, .inl ⟨_, .inl q, by rw [m1 r]⟩⟩
    · exact .inr ⟨_, rfl, .inr ⟨_, .inl q, by rw [m2 r]⟩⟩
  · refine .inl (truth_tru fh h ?_)
    unfold truthE at e
    split at e
    · exact absurd ⟨_, rfl⟩ hd
    · exact absurd ⟨_, rfl⟩ hd
    · exact e
theorem truE_end {Q : Bool → Hp → Prop} {x : V} {u : R} (k : Ok c G ρ σ H F) (hr : RepR c σ ρ F u x)
    (h : Wn c G σ F RepB Q (match look ρ u with | some d => (match truthE d with | some b => .ok b ρ | none => .bad) | none => .bad)) : ∃ k, TruW c.K x H k ∧ Q k H := by
  cases q : look ρ u with
  | none => simp only [q] at h; exact h.elim
  | some d =>
    simp only [q] at h
    cases q' : truthE d with
    | none => simp only [q'] at h; exact h.elim
    | some b =>
      simp only [q'] at h
      exact ⟨b, truE_tru k.fh (look_dq k hr q) q', h b H F (Ext.refl G F) k rfl⟩
theorem pt_truthW {ta : TE} (ha : PE X a ta) (he : ∀ whole, isTrue a X.env whole = (do let v ← whole; standAt a.pos; holding [v] (truthy v))) :
    PT X a (fun σ H Q => ta σ H fun x H' => ∃ k, TruW X.K x H' k ∧ Q k H') := by
  refine ⟨fun pins s σ H Q I h => ?_⟩
  refine isTrue_plain (thn (ha.run pins s σ H _ I h) fun v s1 ⟨x, H1, I1, r1, k, t, q⟩ => ?_) (he _)
  rcases t with t | ⟨d, rfl, ⟨kvs, e, rfl⟩ | ⟨kvs, e, rfl⟩⟩
  · exact tru_ok pins s1 σ H1 x v Q I1 r1 ⟨k, t, q⟩
  · obtain rfl : v = .ref d := r1
    exact d_truth I1 e fun s' I' => ⟨H1, I', q⟩
  · obtain rfl : v = .ref d := r1
    obtain ⟨z, hd, ys, rel, dd⟩ := dt_rd I1.hok e
    have hl : kvs.length = ys.length := Paired.length rel
    have he : kvs.isEmpty = ys.isEmpty := by cases rel <;> rfl
    refine truthy_dT hd dd (by rw [← hl]; rw [sizeLine_eq] at z; omega) ?_
    rw [← he]
    exact ⟨H1, I1.tok _, q⟩
theorem vt_truth (hK : X.K = c.K) (ha : PE X a (tM c m)) (he : ∀ whole, isTrue a X.env whole = (do let v ← whole; standAt a.pos; holding [v] (truthy v)) := by intro _; rfl) : PT X a (tT c (mTru m)) :=
  pt_weak (pt_truthW ha he) fun σ H Q h => by
    obtain ⟨ρ, F, G, k, h⟩ := one_of h
    exact ⟨ρ, F, G, k, h.imp fun x H1 ⟨ρ1, F1, G1, r, k1, r1, h1⟩ => by rw [hK]; exact truE_end k1 r1 h1⟩
theorem mB_end {Q : Bool → Hp → Prop} (h : tX c (mB m) RepB σ H Q) : tM c m σ H fun x H1 => ∃ k, x = .bl k ∧ Q k H1 := by
  obtain ⟨ρ, F, G, k, h⟩ := one_of h
  refine ⟨ρ, F, G, k, h.imp fun x H1 ⟨ρ1, F1, G1, r, k1, r1, h1⟩ => ?_⟩
  cases r with
  | b i => exact h1.elim
  | v d =>
    cases d with
    | bool b =>
      cases (show Rp c.K F1 x (.bool b) from r1)
      exact ⟨b, rfl, h1 b H1 F1 (Ext.refl G1 F1) k1 rfl⟩
    | _ => exact h1.elim
theorem vt_cmp {op : CmpOp} {r : R2} {g : D → D → Option D} (ho : OpR X (compareOp op) r) (sim : Sim2 c.K r g) (ha : PE X a (tM c m)) (hb : PE X b (tM c n)) (hm : behindInMarks op b = false) : PT X (.Compare a [op] [b] pos) (tT c (mB (mOp2 g m n))) :=
  pt_weak (pt_cmpR ho ha hb hm) fun σ H Q h => by
    have h' : tM c (mOp2 g m n) σ H fun x H1 => ∃ k, x = .bl k ∧ Q k H1 := mB_end h
    obtain ⟨ρ, F, G, k, h⟩ := two_of h'
    exact ⟨ρ, F, G, k, h.imp fun x H1 ⟨ρ1, F1, G1, k1, h1⟩ => ⟨ρ1, F1, G1, k1, h1.imp fun y H2 ⟨ρ2, F2, G2, r, u, k2, r1, r2, h2⟩ => op2_end sim k2 r1 r2 h2⟩⟩
theorem vt_not (ha : PT X a (tT c mt)) : PT X (.UnaryOp .Not a pos) (tT c (mNotT mt)) :=
  pt_weak (pt_not ha) fun σ H Q ⟨ρ, F, G, k, h⟩ => by
    refine ⟨ρ, F, G, k, (Wn.bind (rep := RepB) h).imp fun b H1 ⟨ρ1, F1, b', e1, k1, r1, h1⟩ => ?_⟩
    have r1' : b = b' := r1
    subst r1'
    exact h1 (!b) H1 F1 (Ext.refl G F1) k1 rfl
theorem vw_one {op : BoolOp} (ha : PT X a (tT c mt)) (hop : op = .And ∨ op = .Or := by first | exact .inl rfl | exact .inr rfl) : PW X (.BoolOp op [a] pos) (tT c mt) := by
  rcases hop with rfl | rfl
  · exact pw_and1 ha
  · exact pw_or1 ha
theorem vw_and (ha : PT X a (tT c mt)) (hb : PW X (.BoolOp .And (b :: rest) pos) (tT c nt)) : PW X (.BoolOp .And (a :: b :: rest) pos) (tT c (mAndT mt nt)) :=
  pw_weak (pw_and ha hb) fun σ H Q ⟨ρ, F, G, k, h⟩ => by
    refine ⟨ρ, F, G, k, (Wn.bind (rep := RepB) h).imp fun b H1 ⟨ρ1, F1, b', e1, k1, r1, h1⟩ => ?_⟩
    have r1' : b = b' := r1
    subst r1'
    cases b with
    | true => rw [if_pos rfl]; exact ⟨ρ1, F1, G, k1, h1⟩
    | false => rw [if_neg Bool.false_ne_true]; exact h1 false H1 F1 (Ext.refl G F1) k1 rfl
theorem vw_or (ha : PT X a (tT c mt)) (hb : PW X (.BoolOp .Or (b :: rest) pos) (tT c nt)) : PW X (.BoolOp .Or (a :: b :: rest) pos) (tT c (mOrT mt nt)) :=
  pw_weak (pw_or ha hb) fun σ H Q ⟨ρ, F, G, k, h⟩ => by
    refine ⟨ρ, F, G, k, (Wn.bind (rep := RepB) h).imp fun b H1 ⟨ρ1, F1, b', e1, k1, r1, h1⟩ => ?_⟩
    have r1' : b = b' := r1
    subst r1'
    cases b with
    | false => rw [if_neg Bool.false_ne_true]; exact ⟨ρ1, F1, G, k1, h1⟩
    | true => rw [if_pos rfl]; exact h1 true H1 F1 (Ext.refl G F1) k1 rfl
theorem vt_bool {op : BoolOp} {es : List Expr} (h : PW X (.BoolOp op es pos) (tT c mt)) : PT X (.BoolOp op es pos) (tT c mt) := h.pt
theorem ve_one {op : BoolOp} (h : PE X a (tM c m)) : PE X (.BoolOp op [a] pos) (tM c m) := pe_one h
theorem ve_and (hK : X.K = c.K) (ha : PE X a (tM c m)) (hb : PE X (.BoolOp .And (b :: rest) pos) (tM c n)) : PE X (.BoolOp .And (a :: b :: rest) pos) (tM c (mAnd m n)) :=
  pe_weak (pe_andT ha hb) fun σ H Q h => by
    obtain ⟨ρ, F, G, k, h⟩ := one_of h
    refine ⟨ρ, F, G, k, h.imp fun x H1 ⟨ρ1, F1, G1, r, k1, r1, h1⟩ => ?_⟩
    cases q : look ρ1 r with
    | none => simp only [q] at h1; exact h1.elim
    | some d =>
      simp only [q] at h1
      cases q' : truthD d with
      | none => simp only [q'] at h1; exact h1.elim
      | some b =>
        refine ⟨b, by rw [hK]; exact truth_tru k1.fh (look_dq k1 r1 q) q', ?_⟩
        cases b with
        | true => simp only [q'] at h1; rw [if_pos rfl]; exact ⟨ρ1, F1, G1, k1, h1⟩
        | false => simp only [q'] at h1; rw [if_neg Bool.false_ne_true]; exact h1 x H1 F1 (Ext.refl G1 F1) k1 r1
theorem ve_or (hK : X.K = c.K) (ha : PE X a (tM c m)) (hb : PE X (.BoolOp .Or (b :: rest) pos) (tM c n)) : PE X (.BoolOp .Or (a :: b :: rest) pos) (tM c (mOr m n)) :=
  pe_weak (pe_orT ha hb) fun σ H Q h => by
    obtain ⟨ρ, F, G, k, h⟩ := one_of h
    refine ⟨ρ, F, G, k, h.imp fun x H1 ⟨ρ1, F1, G1, r, k1, r1, h1⟩ => ?_⟩
    cases q : look ρ1 r with
    | none => simp only [q] at h1; exact h1.elim
    | some d =>
      simp only [q] at h1
      cases q' : truthD d with
      | none => simp only [q'] at h1; exact h1.elim
      | some b =>
        refine ⟨b, by rw [hK]; exact truth_tru k1.fh (look_dq k1 r1 q) q', ?_⟩
        cases b with
        | false => simp only [q'] at h1; rw [if_neg Bool.false_ne_true]; exact ⟨ρ1, F1, G1, k1, h1⟩
        | true => simp only [q'] at h1; rw [if_pos rfl]; exact h1 x H1 F1 (Ext.refl G1 F1) k1 r1
theorem ve_not (hK : X.K = c.K) (ha : PE X a (tM c m)) : PE X (.UnaryOp .Not a pos) (tM c (mNot m)) :=
  pe_weak (pe_notT ha) fun σ H Q ⟨ρ, F, G, k, h⟩ => by
    have h2 : tX c (mTruV m) RepB σ H fun b H1 => Q (.bl (!b)) H1 := ⟨ρ, F, G, k, (Wn.bind (rep := RepB) h).imp fun b H1 ⟨ρ1, F1, b', e1, k1, r1, h1⟩ => by
      have r1' : b = b' := r1
      subst r1'
      exact h1 (.bl (!b)) H1 F1 (Ext.refl G F1) k1 (.bl _)⟩
    obtain ⟨ρ, F, G, k, h⟩ := one_of h2
    exact ⟨ρ, F, G, k, h.imp fun x H1 ⟨ρ1, F1, G1, r, k1, r1, h1⟩ => by rw [hK]; exact tru_end k1 r1 h1⟩
theorem ve_if (hc : PT X e (tT c mt)) (ha : PE X a (tM c m)) (hb : PE X b (tM c n)) : PE X (.IfExp e a b pos) (tM c (mIf mt m n)) :=
  pe_weak (pe_ifExp hc ha hb) fun σ H Q ⟨ρ, F, G, k, h⟩ => by
    refine ⟨ρ, F, G, k, (Wn.bind (rep := RepB) h).imp fun b H1 ⟨ρ1, F1, b', e1, k1, r1, h1⟩ => ?_⟩
    have r1' : b = b' := r1
    subst r1'
    cases b with
    | false => rw [if_neg Bool.false_ne_true]; exact ⟨ρ1, F1, G, k1, h1⟩
    | true => rw [if_pos rfl]; exact ⟨ρ1, F1, G, k1, h1⟩
/-- a < b < c -/
def mChain (g g' : D → D → Option D) (m n o : M R) : M R := mBind m fun r => mBind n fun u ρ => match look ρ r, look ρ u with
  | some d, some e => (match g d e with
    | some (.bool true) => mBind o (fun w ρ => match look ρ u, look ρ w with
      | some e', some f => fin1 ρ (g' e' f)
      | _, _ => .bad) ρ
    | some (.bool false) => .ok (.v (.bool false)) ρ
    | _ => .bad)
  | _, _ => .bad
theorem chain_of {r r' : R2} {g g' : D → D → Option D} {o : M R} {Q : VK} (sim : Sim2 c.K r g) (sim' : Sim2 c.K r' g') (h : tM c (mChain g g' m n o) σ H Q) : tChain r r' (tM c m) (tM c n) (tM c o) σ H Q := by
  obtain ⟨ρ, F, G, k, h⟩ := two_of h
  refine ⟨ρ, F, G, k, h.imp fun x H1 ⟨ρ1, F1, G1, k1, h1⟩ => ⟨ρ1, F1, G1, k1, h1.imp fun y H2 ⟨ρ2, F2, G2, u, w, k2, r1, r2, h2⟩ => ?_⟩⟩
  cases q : look ρ2 u with
  | none => simp only [q] at h2; exact h2.elim
  | some d =>
    cases q' : look ρ2 w with
    | none => simp only [q, q'] at h2; exact h2.elim
    | some d' =>
      simp only [q, q'] at h2
      cases q2 : g d d' with
      | none => simp only [q2] at h2; exact h2.elim
      | some z =>
        simp only [q2] at h2
        refine sim x y H2 F2 d d' z _ k2.fh (look_dq k2 r1 q) (look_dq k2 r2 q') q2 fun v H' F' gr rv => ?_
        cases z with
        | bool b =>
          cases rv
          refine ⟨b, rfl, ?_⟩
          cases b with
          | false =>
            simp only at h2
            rw [if_neg Bool.false_ne_true]
            exact h2 _ H' F' (gr.ext k2.gh) (k2.grow gr) (.bl _)
          | true =>
            simp only at h2
            rw [if_pos rfl]
            have h3 := h2.ext (gr.ext k2.gh)
            refine ⟨ρ2, F', G2, k2.grow gr, (Wn.bind (rep := RepR c σ) h3).imp fun v3 H3 ⟨ρ3, F3, u3, e3, k3, r3, h4⟩ => ?_⟩
            exact op2_end sim' k3 (r2.mono (gr.ff.trans e3.le)) r3 h4
        | _ => exact h2.elim
theorem ve_chain {op op' : CmpOp} {r r' : R2} {g g' : D → D → Option D} {o : M R} {d : Expr} (ho : OpR X (compareOp op) r) (sim : Sim2 c.K r g) (ho' : OpR X (compareOp op') r') (sim' : Sim2 c.K r' g') (ha : PE X a (tM c m)) (hb : PE X b (tM c n)) (hd : PE X d (tM c o))
    (hm : lastMarks [op, op'] [b, d] = false := by with_unfolding_all rfl) : PE X (.Compare a [op, op'] [b, d] pos) (tM c (mChain g g' m n o)) :=
  pe_weak (pe_chain ho ho' ha hb hd hm) fun σ H Q h => chain_of sim sim' h
theorem vt_chain {op op' : CmpOp} {r r' : R2} {g g' : D → D → Option D} {o : M R} {d : Expr} (ho : OpR X (compareOp op) r) (sim : Sim2 c.K r g) (ho' : OpR X (compareOp op') r') (sim' : Sim2 c.K r' g') (ha : PE X a (tM c m)) (hb : PE X b (tM c n)) (hd : PE X d (tM c o))
    (hm : lastMarks [op, op'] [b, d] = false := by with_unfolding_all rfl) : PT X (.Compare a [op, op'] [b, d] pos) (tT c (mB (mChain g g' m n o))) :=
  pt_weak (pt_chain ho ho' ha hb hd hm) fun σ H Q h => chain_of sim sim' (mB_end h)

/-! ### a slot's list becomes a datum -/
/-- .. where things may be locked on the way -/
inductive LkS : Hp → (Hp → Prop) → Prop
  | here {H : Hp} {Q : Hp → Prop} : Q H → LkS H Q
  | lock {H : Hp} {Q : Hp → Prop} {d : Addr} {u : HO} : H d = some u → Mut (some u) → (∀ od, LkS (upd H d (.frz od u)) Q) → LkS H Q
theorem LkS.imp {Q Q' : Hp → Prop} {H : Hp} (h : LkS H Q) (w : ∀ H, Q H → Q' H) : LkS H Q' := by
  induction h with
  | here q => exact .here (w _ q)
  | lock h1 h2 _ ih => exact .lock h1 h2 fun od => ih od w
theorem LkS.bind {Q Q' : Hp → Prop} {H : Hp} (h : LkS H Q) (w : ∀ H, Q H → LkS H Q') : LkS H Q' := by
  induction h with
  | here q => exact w _ q
  | lock h1 h2 _ ih => exact .lock h1 h2 fun od => ih od w
theorem LkS.run {pins : List (Addr × Obj)} {s : Shared} {Q : Hp → Prop} (h : LkS H Q) (I : Inv X pins σ H s) : ∃ H', Inv X pins σ H' s ∧ Q H' := by
  induction h with
  | here q => exact ⟨_, I, q⟩
  | lock h1 h2 _ ih =>
    obtain ⟨od, I1⟩ := I.lock h1 h2
    exact ih od I1
theorem pe_lk {t : TE} (ha : PE X a t) : PE X a (fun σ H Q => t σ H fun x H1 => LkS H1 (Q x)) :=
  ⟨fun pins s σ H Q I h => thn (ha.run pins s σ H _ I h) fun v s1 ⟨x, H1, I1, r, q⟩ => let ⟨H2, I2, q⟩ := q.run I1; ⟨x, H2, I2, r, q⟩⟩
theorem pa_lk {t : TA} (ha : PA X es t) : PA X es (fun σ H Q => t σ H fun x H1 => LkS H1 (Q x)) :=
  ⟨fun pos pins s σ H Q I h => thn (ha.run pos pins s σ H _ I h) fun v s1 ⟨x, H1, I1, r, q⟩ => let ⟨H2, I2, q⟩ := q.run I1; ⟨x, H2, I2, r, q⟩⟩
theorem Ok.frzAt {i : Nat} {a : Addr} {u u' : HO} {d : D} {l : Box} (k : Ok c G ρ σ H F) (q : ρ[i]? = some (.lst l)) (hr' : σ[i]? = some (some (.ref a))) (h2 : F a = none) (h3 : G a = none) (h4 : H a = some u) (rl : Rp c.K (upd F a u') (.ref a) d) :
    Ext G F (upd F a u') ∧ Ok c G (ρ.set i (.val d)) σ (upd H a u') (upd F a u') := by
  have hle : HLe F (upd F a u') := HLe.put h2
  have hat : OwnAt ρ σ i a := ⟨⟨_, q, rfl⟩, hr'⟩
  refine ⟨⟨hle, fun b o e => ?_⟩, ⟨fun b o e => ?_, fun b o e => ?_, by simp [k.len], fun j s e => ?_, fun j m b ⟨⟨s, e1, o1⟩, h1⟩ ⟨⟨t, e2, o2⟩, h2⟩ => ?_, fun j b e => ?_⟩⟩
  · by_cases eb : b = a
    · subst eb; exact .inr h3
    · rw [upd_ne eb] at e; exact .inl e
  · by_cases eb : b = a
    · subst eb; rw [upd_same] at e ⊢; exact e
    · rw [upd_ne eb] at e ⊢; exact k.fh b o e
  · rw [upd_ne (fun z => by rw [z, h3] at e; cases e)]; exact k.gh b o e
  · rcases set_get e with ⟨rfl, rfl, hl⟩ | ⟨hj, e⟩
    · exact ⟨_, hr', rl⟩
    · have z := k.slot j s e
      have ne : ∀ b, OwnAt ρ σ j b → b ≠ a := fun b hb eb => hj (k.apart j i a (eb ▸ hb) hat)
      cases s with
      | no => trivial
      | val d => obtain ⟨v, z1, z2⟩ := z; exact ⟨v, z1, z2.le hle⟩
      | lst l' => obtain ⟨b, z1, z2, z3, z4, us, z5, z6⟩ := z; exact ⟨b, z1, z2, by rw [upd_ne (ne b ⟨⟨_, e, rfl⟩, z1⟩)]; exact z3, z4, us, by rw [upd_ne (ne b ⟨⟨_, e, rfl⟩, z1⟩)]; exact z5, BoxIs.le hle z6⟩
      | iol l' => obtain ⟨b, z1, z2, z3, z4, us, z5, z6⟩ := z; exact ⟨b, z1, z2, by rw [upd_ne (ne b ⟨⟨_, e, rfl⟩, z1⟩)]; exact z3, z4, us, by rw [upd_ne (ne b ⟨⟨_, e, rfl⟩, z1⟩)]; exact z5, BoxIs.le hle z6⟩
  · rcases set_get e1 with ⟨rfl, rfl, hl⟩ | ⟨hj, e1⟩
    · cases o1
    · rcases set_get e2 with ⟨rfl, rfl, hl⟩ | ⟨hm, e2⟩
      · cases o2
      · exact k.apart j m b ⟨⟨s, e1, o1⟩, h1⟩ ⟨⟨t, e2, o2⟩, h2⟩
  · obtain ⟨l', z⟩ := k.ioc j b e
    have hj : j ≠ i := fun z' => by rw [z', q] at z; cases z
    exact ⟨l', by rw [List.getElem?_set_ne (Ne.symm hj)]; exact z⟩
theorem frz_ok {r : R} {x : V} (k : Ok c G ρ σ H F) (hr : RepR c σ ρ F r x) : match frz ρ r with
    | .ok d ρ' => LkS H fun H' => ∃ F', Ext G F F' ∧ Ok c G ρ' σ H' F' ∧ Rp c.K F' x d
    | .exc _ _ => False
    | .bad => True := by
  cases r with
  | v d => exact .here ⟨F, Ext.refl G F, k, hr⟩
  | b i =>
    have hr' : σ[i]? = some (some x) := hr
    unfold frz
    cases q : ρ[i]? with
    | none => simp only [q]
    | some s =>
      have z := k.slot i s q
      cases s with
      | no => simp only [q]
      | iol l => simp only [q]
      | val d =>
        obtain ⟨v, h1, h2⟩ := z
        rw [hr'] at h1; cases h1
        simp only [q]
        exact .here ⟨F, Ext.refl G F, k, h2⟩
      | lst l =>
        obtain ⟨a, h1, hio, h2, h3, u, h4, h5⟩ := z
        rw [hr'] at h1; cases h1
        simp only [q]
        have hle : ∀ u', HLe F (upd F a u') := fun u' => HLe.put h2
        cases l with
        | li l =>
          obtain ⟨vs, rfl, h5⟩ := h5
          have rl : Rp c.K (upd F a (.lst vs)) (.ref a) (.list l) := .lst upd_same (RpAll.le (hle _) h5)
          have z := k.frzAt q hr' h2 h3 h4 rl
          have eH : upd H a (.lst vs) = H := by
            funext b
            by_cases e : b = a
            · subst e; rw [upd_same, h4]
            · rw [upd_ne e]
          rw [eH] at z
          exact .here ⟨_, z.1, z.2, rl⟩
        | dk l =>
          obtain ⟨vs, rfl, h5⟩ := h5
          refine .lock h4 True.intro fun od => .here ?_
          have rl : Rp c.K (upd F a (.frz od (.dK vs))) (.ref a) (.dict l) := .dct upd_same (RpKs.le (hle _) h5)
          have z := k.frzAt q hr' h2 h3 h4 rl
          exact ⟨_, z.1, z.2, rl⟩
        | dt l =>
          obtain ⟨vs, rfl, h5⟩ := h5
          refine .lock h4 True.intro fun od => .here ?_
          have rl : Rp c.K (upd F a (.frz od (.dT vs))) (.ref a) (.dict l) := .dctT upd_same (RpTs.le (hle _) h5)
          have z := k.frzAt q hr' h2 h3 h4 rl
          exact ⟨_, z.1, z.2, rl⟩
theorem Wn.frz {r : R} {x : V} {Q : VK} (h : Wn c G σ F (RepD c) Q (VL.frz ρ r)) (k : Ok c G ρ σ H F) (hr : RepR c σ ρ F r x) : LkS H (Q x) := by
  have z := frz_ok k hr
  cases q : VL.frz ρ r with
  | bad => rw [q] at h; exact h.elim
  | exc y ρ' => rw [q] at z; exact z.elim
  | ok d ρ' =>
    rw [q] at h z
    exact z.imp fun H' ⟨F', e, k', r'⟩ => h x H' F' e k' r'
theorem ve_frz (ha : PE X a (tM c m)) : PE X a (tD c (mFrz m)) :=
  pe_weak (pe_lk ha) fun σ H Q h => by
    obtain ⟨ρ, F, G, k, h⟩ := one_of h
    exact ⟨ρ, F, G, k, h.imp fun x H1 ⟨ρ1, F1, G1, r, k1, r1, h1⟩ => h1.frz k1 r1⟩
theorem Wn.frzs {Q : List V → Hp → Prop} : ∀ {rs : List R} {xs : List V} {ρ : Rho} {H F : Hp}, Wn c G σ F (RepDs c) Q (mFrzs.go rs ρ) → Ok c G ρ σ H F → RepRs c σ ρ F rs xs → LkS H (Q xs)
  | [], [], ρ, H, F, h, k, _ => .here (h [] H F (Ext.refl G F) k .nil)
  | r :: rs, x :: xs, ρ, H, F, h, k, hr => by
    have z := frz_ok k hr.1
    unfold mFrzs.go at h
    cases q : VL.frz ρ r with
    | bad => simp only [q] at h; exact h.elim
    | exc y ρ' => rw [q] at z; exact z.elim
    | ok d ρ1 =>
      rw [q] at z
      simp only [q] at h
      refine z.bind fun H1 ⟨F1, e1, k1, r1⟩ => ?_
      have hrs : RepRs c σ ρ1 F1 rs xs := RepRs.mono e1.le hr.2
      refine Wn.frzs (Q := fun xs H => Q (x :: xs) H) (rs := rs) (xs := xs) (ρ := ρ1) (F := F1) ?_ k1 hrs
      cases q2 : mFrzs.go rs ρ1 with
      | bad => simp only [q2] at h; exact h.elim
      | exc y ρ' => simp only [q2] at h; exact fun H' F' e' k' => h H' F' (e1.trans e') k'
      | ok ds ρ2 =>
        simp only [q2] at h
        exact fun vs H' F' e' k' r' => h (x :: vs) H' F' (e1.trans e') k' (.cons (Rp.le e'.le r1) r')
  | [], _ :: _, _, _, _, _, _, hr => hr.elim
  | _ :: _, [], _, _, _, _, _, hr => hr.elim
theorem va_frz {ms : M (List R)} (ha : PA X es (tA c ms)) : PA X es (tDs c (mFrzs ms)) :=
  pa_weak (pa_lk ha) fun σ H Q h => by
    obtain ⟨ρ, F, G, k, h⟩ := many_of h
    exact ⟨ρ, F, G, k, h.imp fun xs H1 ⟨ρ1, F1, G1, rs, k1, r1, h1⟩ => h1.frzs k1 r1⟩

/-! ### displays -/
def lenOk {α : Type} (l : List α) : Bool := decide (l.length ≤ 16777216)
theorem lenOk_le {α : Type} {l : List α} (h : lenOk l = true) : l.length ≤ sizeLine := by rw [sizeLine_eq]; exact of_decide_eq_true h
def mTup (ms : M (List R)) : M R := mBind (mFrzs ms) fun ds ρ => if lenOk ds = true then .ok (.v (.tuple ds)) ρ else .bad
/-- a new list, not yet in a slot -/
def mLst (ms : M (List R)) : M (List D) := mBind (mFrzs ms) fun ds ρ => if lenOk ds = true then .ok ds ρ else .bad
/-- .. a datum at once -/
def mNew (m : M (List D)) : M R := mBind m fun l => mPure (.v (.list l))
def WnN (c : Vx) (G : Hp) (σ : L2.St) (F : Hp) (Q : VK) : Res (List D) → Prop
  | .ok l ρ' => ∀ p vs H' F', Ext G F F' → Ok c G ρ' σ H' F' → H' p = none → RpAll c.K F' vs l → Q (.ref p) (upd H' p (.lst vs))
  | .exc x ρ' => ∀ H' F', Ext G F F' → Ok c G ρ' σ H' F' → c.W (c.cls x) none σ H'
  | .bad => False
def tN (c : Vx) (m : M (List D)) : TE := fun σ H Q => ∃ ρ F G, Ok c G ρ σ H F ∧ WnN c G σ F Q (m ρ)
theorem WnN.ext {Q : VK} {r : Res (List D)} (h : WnN c G σ F Q r) (e : Ext G F F1) : WnN c G σ F1 Q r := by
  cases r with
  | bad => exact h
  | exc x ρ' => exact fun H' F' e' k => h H' F' (e.trans e') k
  | ok a ρ' => exact fun p vs H' F' e' k => h p vs H' F' (e.trans e') k
theorem ve_new {mn : M (List D)} (ha : PE X a (tN c mn)) : PE X a (tM c (mNew mn)) :=
  pe_weak ha fun σ H Q ⟨ρ, F, G, k, h⟩ => by
    refine ⟨ρ, F, G, k, ?_⟩
    unfold mNew mBind at h
    cases q : mn ρ with
    | bad => rw [q] at h; exact h
    | exc x ρ' => rw [q] at h; exact h
    | ok l ρ' =>
      rw [q] at h
      intro p vs H' F' e k' hp rv
      have gr := Grow.new1 (o := .lst vs) k'.fh hp
      exact h _ _ _ (e.trans (gr.ext k'.gh)) (k'.grow gr) (.lst upd_same (RpAll.le gr.ff rv))
theorem ve_tup {ms : M (List R)} {x1 : Nat} (ha : PA X es (tA c ms)) : PE X (.Tuple es x1 pos) (tM c (mTup ms)) :=
  pe_weak (pe_tup (va_frz ha)) fun σ H Q ⟨ρ, F, G, k, h⟩ => by
    refine ⟨ρ, F, G, k, (Wn.bind (rep := RepDs c) h).imp fun xs H1 ⟨ρ1, F1, ds, e1, k1, r1, h1⟩ => ?_⟩
    have rl := RpAll.length r1
    have h1 : Wn c G σ F1 (RepR c σ) Q (if lenOk ds = true then .ok (.v (.tuple ds)) ρ1 else .bad) := h1
    by_cases hl : lenOk ds = true
    · rw [if_pos hl] at h1
      refine ⟨by rw [rl]; exact lenOk_le hl, fun p hp => ?_⟩
      have gr := Grow.new1 (o := .tup xs) k1.fh hp
      exact h1 _ _ _ (gr.ext k1.gh) (k1.grow gr) (.tup (SqT.of upd_same) (RpAll.le gr.ff r1))
    · rw [if_neg hl] at h1; exact h1.elim
theorem vn_lst {ms : M (List R)} (ha : PA X es (tA c ms)) : PE X (.List es pos) (tN c (mLst ms)) :=
  pe_weak (pe_lst (va_frz ha)) fun σ H Q ⟨ρ, F, G, k, h⟩ => by
    refine ⟨ρ, F, G, k, ?_⟩
    have h2 : Wn c G σ F (RepDs c) (fun xs H1 => xs.length ≤ sizeLine ∧ ∀ p, H1 p = none → Q (.ref p) (upd H1 p (.lst xs))) (mFrzs ms ρ) := by
      unfold mLst mBind at h
      cases q : mFrzs ms ρ with
      | bad => rw [q] at h; exact h
      | exc x ρ' => rw [q] at h; exact h
      | ok ds ρ' =>
        simp only [q] at h
        intro xs H' F' e k' rv
        have rl := RpAll.length rv
        by_cases hl : lenOk ds = true
        · rw [if_pos hl] at h
          exact ⟨by rw [rl]; exact lenOk_le hl, fun p hp => h p xs H' F' e k' hp rv⟩
        · rw [if_neg hl] at h; exact h.elim
    exact h2
/-- a new list or dict, not yet in a slot -/
def WnB (c : Vx) (G : Hp) (σ : L2.St) (F : Hp) (Q : VK) : Res Box → Prop
  | .ok l ρ' => ∀ p u H' F', Ext G F F' → Ok c G ρ' σ H' F' → H' p = none → BoxIs c.K F' u l → Q (.ref p) (upd H' p u)
  | .exc x ρ' => ∀ H' F', Ext G F F' → Ok c G ρ' σ H' F' → c.W (c.cls x) none σ H'
  | .bad => False
def tB (c : Vx) (m : M Box) : TE := fun σ H Q => ∃ ρ F G, Ok c G ρ σ H F ∧ WnB c G σ F Q (m ρ)
def mNewB (m : M Box) : M R := mBind m fun l => mPure (.v l.data)
theorem box_frz {K : PySem.W.Frag} {p : Addr} {u : HO} {b : Box} {Q : Hp → Prop} (fh : HLe F H) (hp : H p = none) (r : BoxIs K F u b) (h : ∀ H' F', Grow H F H' F' → Rp K F' (.ref p) b.data → Q H') : LkS (upd H p u) Q := by
  have nF : F p = none := fh.free hp
  have up : ∀ u u' : HO, upd (upd H p u) p u' = upd H p u' := fun u u' => by
    funext b
    by_cases e : b = p
    · subst e; rw [upd_same, upd_same]
    · rw [upd_ne e, upd_ne e, upd_ne e]
  cases b with
  | li l =>
    obtain ⟨vs, rfl, r⟩ := r
    have gr := Grow.new1 (o := .lst vs) fh hp
    exact .here (h _ _ gr (.lst upd_same (RpAll.le gr.ff r)))
  | dk l =>
    obtain ⟨vs, rfl, r⟩ := r
    refine .lock (upd_same : upd H p (.dK vs) p = _) True.intro fun od => .here ?_
    rw [up]
    have gr := Grow.new1 (o := .frz od (.dK vs)) fh hp
    exact h _ _ gr (.dct upd_same (RpKs.le gr.ff r))
  | dt l =>
    obtain ⟨vs, rfl, r⟩ := r
    refine .lock (upd_same : upd H p (.dT vs) p = _) True.intro fun od => .here ?_
    rw [up]
    have gr := Grow.new1 (o := .frz od (.dT vs)) fh hp
    exact h _ _ gr (.dctT upd_same (RpTs.le gr.ff r))
theorem ve_newB {mn : M Box} (ha : PE X a (tB c mn)) : PE X a (tM c (mNewB mn)) :=
  pe_weak (pe_lk ha) fun σ H Q ⟨ρ, F, G, k, h⟩ => by
    refine ⟨ρ, F, G, k, ?_⟩
    unfold mNewB mBind at h
    cases q : mn ρ with
    | bad => rw [q] at h; exact h
    | exc x ρ' => rw [q] at h; exact h
    | ok l ρ' =>
      rw [q] at h
      intro p u H' F' e k' hp rv
      exact box_frz k'.fh hp rv fun H2 F2 gr r => h _ _ _ (e.trans (gr.ext k'.gh)) (k'.grow gr) r
def mLi (mn : M (List D)) : M Box := mBind mn fun l => mPure (.li l)
theorem vb_li {mn : M (List D)} (ha : PE X a (tN c mn)) : PE X a (tB c (mLi mn)) :=
  pe_weak ha fun σ H Q ⟨ρ, F, G, k, h⟩ => by
    refine ⟨ρ, F, G, k, ?_⟩
    unfold mLi mBind at h
    cases q : mn ρ with
    | bad => rw [q] at h; exact h
    | exc x ρ' => rw [q] at h; exact h
    | ok l ρ' =>
      rw [q] at h
      exact fun p vs H' F' e k' hp rv => h p (.lst vs) H' F' e k' hp ⟨vs, rfl, rv⟩
end
end VL

set_option Elab.async false
set_option linter.all false
set_option autoImplicit false
set_option maxRecDepth 100000
namespace VL
open PySem PySem.Spec PyProof.Rows L2

/-! ### mirrors of statements -/
def sBind {α : Type} (m : M α) (f : α → MS) : MS := fun ρ => match m ρ with
  | .ok a ρ' => f a ρ'
  | .exc x ρ' => .exc x ρ'
  | .bad => .bad
def sNext : MS := fun ρ => .nx ρ
def sSeq (m n : MS) : MS := fun ρ => match m ρ with
  | .nx ρ' => n ρ'
  | r => r
def sExpr (m : M R) : MS := sBind m fun _ => sNext
def sRet (m : M R) : MS := sBind (mFrz m) fun d ρ => .rt d ρ
def sRetN : MS := fun ρ => .rt .none ρ
def sBreak : MS := fun ρ => .bk ρ
def sCont : MS := fun ρ => .ct ρ
def sIf (t : M Bool) (m n : MS) : MS := sBind t fun b => if b = true then m else n
abbrev Tgt := D → Rho → Option Rho
abbrev Tgts := List D → Rho → Option Rho
def put (i : Nat) (s : SV) (ρ : Rho) : Option Rho := match ρ[i]? with
  | some (.iol _) => none
  | some _ => some (ρ.set i s)
  | none => none
def gN (i : Nat) : Tgt := fun d ρ => put i (.val d) ρ
def gT (n : Nat) (t : Tgts) : Tgt := fun d ρ => match d with
  | .tuple l => if l.length = n then t l ρ else none
  | _ => none
def gL (n : Nat) (t : Tgts) : Tgt := fun d ρ => match d with
  | .list l => if l.length = n then t l ρ else none
  | _ => none
def gsN : Tgts := fun ds ρ => match ds with
  | [] => some ρ
  | _ => none
def gsC (t : Tgt) (u : Tgts) : Tgts := fun ds ρ => match ds with
  | d :: r => (match t d ρ with
    | some ρ' => u r ρ'
    | none => none)
  | [] => none
def nxo : Option Rho → SRes
  | some ρ => .nx ρ
  | none => .bad
def sAsg (m : M R) (t : Tgt) : MS := sBind (mFrz m) fun d ρ => nxo (t d ρ)
def sSetN (i : Nat) (m : M (List D)) : MS := sBind m fun l ρ => nxo (put i (.lst (.li l)) ρ)
def sSetB (i : Nat) (m : M Box) : MS := sBind m fun l ρ => nxo (put i (.lst l) ρ)
def sAug (i : Nat) (g : D → D → Option D) (m : M R) : MS := fun ρ => match ρ[i]? with
  | some (.val d) => sBind m (fun r ρ => match look ρ r with
    | some e => (match g d e with
      | some z => nxo (put i (.val z) ρ)
      | none => .bad)
    | none => .bad) ρ
  | _ => .bad
def puts : List Nat → List D → Rho → Option Rho
  | [], [], ρ => some ρ
  | i :: is, d :: ds, ρ => (match put i (.val d) ρ with
    | some ρ' => puts is ds ρ'
    | none => none)
  | _, _, _ => none
def sPar (is : List Nat) (ms : M (List R)) : MS := sBind (mFrzs ms) fun ds ρ => nxo (puts is ds ρ)
def sWhile (t : M Bool) (b : MS) : Nat → MS
  | 0 => fun _ => .bad
  | n + 1 => fun ρ => match t ρ with
    | .ok true ρ1 => (match b ρ1 with
      | .nx ρ2 => sWhile t b n ρ2
      | .ct ρ2 => sWhile t b n ρ2
      | .bk ρ2 => .nx ρ2
      | r => r)
    | .ok false ρ1 => .nx ρ1
    | .exc x ρ1 => .exc x ρ1
    | .bad => .bad
def sLoop (t : Tgt) (b : MS) : List D → MS
  | [] => sNext
  | x :: xs => fun ρ => match t x ρ with
    | some ρ1 => (match b ρ1 with
      | .nx ρ2 => sLoop t b xs ρ2
      | .ct ρ2 => sLoop t b xs ρ2
      | .bk ρ2 => .nx ρ2
      | r => r)
    | none => .bad
def sFor (mi : M (List D)) (t : Tgt) (b : MS) : MS := sBind mi fun l => sLoop t b l
def sRaise (x : String) : MS := fun ρ => .exc x ρ

/-! ### readings -/
def Sn (c : Vx) (G : Hp) (F : Hp) (D : Ends) : SRes → Prop
  | .nx ρ' => ∀ σ' H' F', Ext G F F' → Ok c G ρ' σ' H' F' → D.nx σ' H'
  | .rt d ρ' => ∀ v σ' H' F', Ext G F F' → Ok c G ρ' σ' H' F' → Rp c.K F' v d → D.rt v H'
  | .bk ρ' => ∀ σ' H' F', Ext G F F' → Ok c G ρ' σ' H' F' → D.bk σ' H'
  | .ct ρ' => ∀ σ' H' F', Ext G F F' → Ok c G ρ' σ' H' F' → D.ct σ' H'
  | .exc x ρ' => ∀ σ' H' F', Ext G F F' → Ok c G ρ' σ' H' F' → c.W (c.cls x) none σ' H'
  | .bad => False
def tS (c : Vx) (m : MS) : TS := fun D σ H => ∃ ρ F G, Ok c G ρ σ H F ∧ Sn c G F D (m ρ)
def tG (c : Vx) (t : Tgt) (ts : List Nat) : TG := fun v σ H Q => ∃ ρ F G d ρ', Ok c G ρ σ H F ∧ Rp c.K F v d ∧ t d ρ = some ρ' ∧ ∀ σ', σ'.length = σ.length → (∀ j, j ∉ ts → σ'[j]? = σ[j]?) → Ok c G ρ' σ' H F → Q σ' H
def tGs (c : Vx) (t : Tgts) (ts : List Nat) : TGs := fun vs σ H Q => ∃ ρ F G ds ρ', Ok c G ρ σ H F ∧ RpAll c.K F vs ds ∧ t ds ρ = some ρ' ∧ ∀ σ', σ'.length = σ.length → (∀ j, j ∉ ts → σ'[j]? = σ[j]?) → Ok c G ρ' σ' H F → Q σ' H
/-- J walks the data l -/
def Walk (K : PySem.W.Frag) (F : Hp) (l : List D) (J : It) : Prop :=
  ∀ i H F', HLe F F' → HLe F' H → (∀ d, l[i]? = some d → J.go i H ∧ ∀ x H', J.yld i H x H' → ∃ F'', Grow H F' H' F'' ∧ Rp K F'' x d) ∧ (l.length ≤ i → J.stop i H)
def tI (c : Vx) (mi : M (List D)) : TI := fun σ H R => ∃ ρ F G, Ok c G ρ σ H F ∧ (match mi ρ with
  | .ok l ρ' => ∀ J H' F', Ext G F F' → Ok c G ρ' σ H' F' → Walk c.K F' l J → R J H'
  | .exc x ρ' => ∀ H' F', Ext G F F' → Ok c G ρ' σ H' F' → c.W (c.cls x) none σ H'
  | .bad => False)

section
variable {X : Cx} {c : Vx} {G : Hp} {ρ : Rho} {σ : L2.St} {H F F1 : Hp} {E : Ends}
variable {a b e : Expr} {es rest : List Expr} {pos : Pos} {m n : M R} {mt nt : M Bool} {st : Stmt} {sts ste : List Stmt} {s u : MS}
variable {α β : Type} {rep : Rho → Hp → α → β → Prop}
theorem Sn.ext {r : SRes} (h : Sn c G F E r) (e : Ext G F F1) : Sn c G F1 E r := by
  cases r with
  | bad => exact h
  | exc x ρ' => exact fun σ' H' F' e' k => h σ' H' F' (e.trans e') k
  | nx ρ' => exact fun σ' H' F' e' k => h σ' H' F' (e.trans e') k
  | bk ρ' => exact fun σ' H' F' e' k => h σ' H' F' (e.trans e') k
  | ct ρ' => exact fun σ' H' F' e' k => h σ' H' F' (e.trans e') k
  | rt d ρ' => exact fun v σ' H' F' e' k => h v σ' H' F' (e.trans e') k
def SCont (c : Vx) (G : Hp) (σ : L2.St) (F : Hp) (rep : Rho → Hp → α → β → Prop) (f : α → MS) (E : Ends) (v : β) (H1 : Hp) : Prop :=
  ∃ ρ1 F1 a, Ext G F F1 ∧ Ok c G ρ1 σ H1 F1 ∧ rep ρ1 F1 a v ∧ Sn c G F1 E (f a ρ1)
theorem Sn.bind {m : M α} {f : α → MS} (h : Sn c G F E (sBind m f ρ)) : Wn c G σ F rep (SCont c G σ F rep f E) (m ρ) := by
  unfold sBind at h
  cases q : m ρ with
  | bad => rw [q] at h; exact h
  | exc x ρ' => rw [q] at h; exact fun H' F' e k => h σ H' F' e k
  | ok a ρ' => rw [q] at h; exact fun v H' F' e k r => ⟨ρ', F', a, e, k, r, h.ext e⟩
theorem vss_nil : PSs X [] (tS c sNext) := pss_weak pss_nil fun D σ H ⟨ρ, F, G, k, h⟩ => h σ H F (Ext.refl G F) k
theorem vss_cons (h1 : PS X st (tS c s)) (h2 : PSs X sts (tS c u)) : PSs X (st :: sts) (tS c (sSeq s u)) :=
  pss_weak (pss_cons h1 h2) fun D σ H ⟨ρ, F, G, k, h⟩ => by
    refine ⟨ρ, F, G, k, ?_⟩
    unfold sSeq at h
    cases q : s ρ with
    | bad => rw [q] at h; exact h
    | exc x ρ' => rw [q] at h; exact h
    | nx ρ' => rw [q] at h; exact fun σ' H' F' e' k' => ⟨ρ', F', G, k', h.ext e'⟩
    | bk ρ' => rw [q] at h; exact h
    | ct ρ' => rw [q] at h; exact h
    | rt d ρ' => rw [q] at h; exact h
theorem vss_one (h1 : PS X st (tS c s)) : PSs X [st] (tS c s) := pss_one h1
theorem vs_expr (ha : PE X a (tM c m)) (hs : swapsWith a none pos.line X.env = pure false := by rfl) : PS X (.Expr a pos) (tS c (sExpr m)) :=
  ps_weak (ps_expr ha hs) fun D σ H ⟨ρ, F, G, k, h⟩ => ⟨ρ, F, G, k, (Sn.bind (rep := RepR c σ) h).imp fun x H1 ⟨ρ1, F1, r, e1, k1, r1, h1⟩ => h1 σ H1 F1 (Ext.refl G F1) k1⟩
theorem vs_ret (ha : PE X a (tM c m)) : PS X (.Return (some a) pos) (tS c (sRet m)) :=
  ps_weak (ps_ret (ve_frz ha)) fun D σ H ⟨ρ, F, G, k, h⟩ => ⟨ρ, F, G, k, (Sn.bind (rep := RepD c) h).imp fun x H1 ⟨ρ1, F1, r, e1, k1, r1, h1⟩ => h1 x σ H1 F1 (Ext.refl G F1) k1 r1⟩
theorem vs_retN : PS X (.Return none pos) (tS c sRetN) := ps_weak ps_retN fun D σ H ⟨ρ, F, G, k, h⟩ => h .non σ H F (Ext.refl G F) k .non
theorem vs_pass : PS X (.Pass pos) (tS c sNext) := ps_weak ps_pass fun D σ H ⟨ρ, F, G, k, h⟩ => h σ H F (Ext.refl G F) k
theorem vs_break : PS X (.Break pos) (tS c sBreak) := ps_weak ps_break fun D σ H ⟨ρ, F, G, k, h⟩ => h σ H F (Ext.refl G F) k
theorem vs_cont : PS X (.Continue pos) (tS c sCont) := ps_weak ps_continue fun D σ H ⟨ρ, F, G, k, h⟩ => h σ H F (Ext.refl G F) k
theorem vs_if (hc : PT X e (tT c mt)) (ha : PSs X sts (tS c s)) (hb : PSs X ste (tS c u)) : PS X (.If e sts ste pos) (tS c (sIf mt s u)) :=
  ps_weak (ps_if hc ha hb) fun D σ H ⟨ρ, F, G, k, h⟩ => by
    refine ⟨ρ, F, G, k, (Sn.bind (rep := RepB) h).imp fun b H1 ⟨ρ1, F1, b', e1, k1, r1, h1⟩ => ?_⟩
    have r1' : b = b' := r1
    subst r1'
    cases b with
    | false => rw [if_neg Bool.false_ne_true]; exact ⟨ρ1, F1, G, k1, h1⟩
    | true => rw [if_pos rfl]; exact ⟨ρ1, F1, G, k1, h1⟩

/-! ### targets -/
theorem put_some {i : Nat} {s : SV} {ρ' : Rho} (h : put i s ρ = some ρ') : ρ' = ρ.set i s ∧ (∀ l, ρ[i]? ≠ some (.iol l)) ∧ i < ρ.length := by
  unfold put at h
  cases q : ρ[i]? with
  | none => simp only [q] at h; cases h
  | some z =>
    have hl : i < ρ.length := (List.getElem?_eq_some_iff.mp q).1
    cases z with
    | iol l => simp only [q] at h; cases h
    | no => simp only [q] at h; exact ⟨(Option.some.inj h).symm, fun l e => (by cases e), hl⟩
    | val d => simp only [q] at h; exact ⟨(Option.some.inj h).symm, fun l e => (by cases e), hl⟩
    | lst l => simp only [q] at h; exact ⟨(Option.some.inj h).symm, fun l e => (by cases e), hl⟩
theorem set_len {x : Option V} (σ : L2.St) (i : Nat) : (σ.set i x).length = σ.length := List.length_set ..
theorem set_off {x : Option V} (σ : L2.St) (i : Nat) : ∀ j, j ∉ [i] → (σ.set i x)[j]? = σ[j]? := fun j hj => List.getElem?_set_ne (by simp at hj; exact Ne.symm hj)
theorem g_name {i : Nat} {v : V} {Q : L2.St → Hp → Prop} (h : tG c (gN i) [i] v σ H Q) : gName i v σ H Q := by
  obtain ⟨ρ, F, G, d, ρ', k, r, e, h⟩ := h
  obtain ⟨rfl, hio, hl⟩ := put_some e
  exact h _ (set_len σ i) (set_off σ i) (k.set r hio)
theorem pg_weak {tg : Expr} {t t' : TG} (h : PG X tg t) (w : ∀ v σ H Q, t' v σ H Q → t v σ H Q) : PG X tg t' := ⟨fun pins s σ H v u Q I r q => h.run pins s σ H v u Q I r (w v σ H Q q)⟩
theorem pgs_weak {tg : List Expr} {t t' : TGs} (h : PGs X tg t) (w : ∀ v σ H Q, t' v σ H Q → t v σ H Q) : PGs X tg t' := ⟨fun pins s σ H v u Q I r q => h.run pins s σ H v u Q I r (w v σ H Q q)⟩
theorem vg_name {i : Nat} (h : PG X e (gName i)) : PG X e (tG c (gN i) [i]) := pg_weak h fun v σ H Q => g_name
theorem vgs_nil : PGs X [] (tGs c gsN []) := pgs_weak pgs_nil fun vs σ H Q ⟨ρ, F, G, ds, ρ', k, r, e, h⟩ => by
  cases r with
  | cons _ _ => cases e
  | nil =>
    cases e
    exact ⟨rfl, h σ rfl (fun _ _ => rfl) k⟩
theorem vgs_cons {t : Tgt} {ts : Tgts} {is js : List Nat} (h1 : PG X e (tG c t is)) (h2 : PGs X es (tGs c ts js)) (hs : (assignEach (e :: es) X.env).map (·.2) = assign e X.env :: (assignEach es X.env).map (·.2) := by rfl) : PGs X (e :: es) (tGs c (gsC t ts) (is ++ js)) :=
  pgs_weak (pgs_cons h1 h2 hs) fun vs σ H Q ⟨ρ, F, G, ds, ρ', k, r, e, h⟩ => by
    cases r with
    | nil => cases e
    | @cons v vs d ds r1 rr =>
      refine ⟨_, _, rfl, ?_⟩
      have e : (match t d ρ with | some ρ' => ts ds ρ' | none => none) = some ρ' := e
      cases q : t d ρ with
      | none => rw [q] at e; cases e
      | some ρ1 =>
        rw [q] at e
        refine ⟨ρ, F, G, d, ρ1, k, r1, q, fun σ1 l1 o1 k1 => ?_⟩
        refine ⟨ρ1, F, G, ds, ρ', k1, rr, e, fun σ2 l2 o2 k2 => ?_⟩
        exact h σ2 (l2.trans l1) (fun j hj => by
          simp only [List.mem_append, not_or] at hj
          exact (o2 j hj.2).trans (o1 j hj.1)) k2
theorem vg_tup {kk : Nat} {ts : Tgts} {is : List Nat} {n : Nat} (hK : X.K = c.K) (hc : X.calm = true) (h : PGs X es (tGs c ts is)) (hn : (assignEach es X.env).length = n := by rfl) (hst : (assignEach es X.env).findIdx? (·.1) = none := by rfl) : PG X (.Tuple es kk pos) (tG c (gT n ts) is) :=
  pg_weak (pg_tup hc h hn hst) fun v σ H Q ⟨ρ, F, G, d, ρ', k, r, e, h⟩ => by
    cases d with
    | tuple l =>
      cases r with
      | tup q rr =>
        have e : (if l.length = n then ts l ρ else none) = some ρ' := e
        by_cases hl : l.length = n
        · rw [if_pos hl] at e
          exact ⟨_, _, rfl, by rw [hK]; exact SqT.le k.fh q, by rw [rr.length]; exact hl, ρ, F, G, l, ρ', k, rr, e, h⟩
        · rw [if_neg hl] at e; cases e
    | _ => cases e
theorem vg_lst {kk : Nat} {ts : Tgts} {is : List Nat} {n : Nat} (hK : X.K = c.K) (hc : X.calm = true) (h : PGs X es (tGs c ts is)) (hn : (assignEach es X.env).length = n := by rfl) (hst : (assignEach es X.env).findIdx? (·.1) = none := by rfl) : PG X (.Tuple es kk pos) (tG c (gL n ts) is) :=
  pg_weak (pg_unl hc h hn hst) fun v σ H Q ⟨ρ, F, G, d, ρ', k, r, e, h⟩ => by
    cases d with
    | list l =>
      cases r with
      | lst q rr =>
        have e : (if l.length = n then ts l ρ else none) = some ρ' := e
        by_cases hl : l.length = n
        · rw [if_pos hl] at e
          exact ⟨_, _, rfl, by exact SqL.of (k.fh _ _ q), by rw [rr.length]; exact hl, ρ, F, G, l, ρ', k, rr, e, h⟩
        · rw [if_neg hl] at e; cases e
    | _ => cases e

/-! ### stores -/
theorem asg_of {t : Tgt} {is : List Nat} (h : tS c (sAsg m t) E σ H) : tAsg (tD c (mFrz m)) (tG c t is) E σ H := by
  obtain ⟨ρ, F, G, k, h⟩ := h
  refine ⟨ρ, F, G, k, (Sn.bind (rep := RepD c) h).imp fun x H1 ⟨ρ1, F1, d, e1, k1, r1, h1⟩ => ?_⟩
  cases q : t d ρ1 with
  | none => simp only [q] at h1; exact h1.elim
  | some ρ2 =>
    simp only [q] at h1
    exact ⟨ρ1, F1, G, d, ρ2, k1, r1, q, fun σ' _ _ k' => h1 σ' H1 F1 (Ext.refl G F1) k'⟩
theorem vs_asg {t : Tgt} {is : List Nat} (h : PS X st (tAsg (tD c (mFrz m)) (tG c t is))) : PS X st (tS c (sAsg m t)) := ps_weak h fun D σ H => asg_of
theorem vs_set {i : Nat} (h : PS X st (tAsg (tD c (mFrz m)) (gName i))) : PS X st (tS c (sAsg m (gN i))) :=
  ps_weak h fun D σ H q => by
    obtain ⟨ρ, F, G, k, h⟩ := asg_of (is := [i]) q
    exact ⟨ρ, F, G, k, h.imp fun x H1 => g_name⟩
/-- a new list becomes a slot's own -/
theorem Ok.setOwn {i : Nat} {p : Addr} {vs : HO} {l : Box} (k : Ok c G ρ σ H F) (hp : H p = none) (r : BoxIs c.K F vs l) (hio : ∀ l, ρ[i]? ≠ some (.iol l)) : Ok c G (ρ.set i (.lst l)) (σ.set i (some (.ref p))) (upd H p vs) F := by
  have nF : F p = none := k.fh.free hp
  have nG : G p = none := k.gh.free hp
  have hh : HLe H (upd H p vs) := HLe.put hp
  have cio : c.io i = none := by
    cases q : c.io i with
    | none => rfl
    | some a => obtain ⟨l, e⟩ := k.ioc i a q; exact absurd e (hio l)
  have gr : ∀ {j s}, ρ[j]? = some s → SlotOk c G σ (upd H p vs) F j s := fun {j s} e => by
    have q := k.slot j s e
    cases s with
    | no => trivial
    | val d => exact q
    | lst l => obtain ⟨a, h1, h2, h3, h4, us, h5, h6⟩ := q; exact ⟨a, h1, h2, h3, h4, us, hh _ _ h5, h6⟩
    | iol l => obtain ⟨a, h1, h2, h3, h4, us, h5, h6⟩ := q; exact ⟨a, h1, h2, h3, h4, us, hh _ _ h5, h6⟩
  have old : ∀ {j a}, OwnAt ρ σ j a → a ≠ p := fun {j a} ⟨⟨s, e, o⟩, h1⟩ => by
    obtain ⟨a', l, _, h2, ⟨_, _, us, h3, _⟩, _⟩ := k.own e o
    rw [h1] at h2; cases h2
    exact ne_of_none h3 hp
  refine ⟨k.fh.trans hh, k.gh.trans hh, by simp [k.len], fun j s e => ?_, fun j m b ⟨⟨s, e1, o1⟩, h1⟩ ⟨⟨t, e2, o2⟩, h2⟩ => ?_, fun j b e => ?_⟩
  · rcases set_get e with ⟨rfl, rfl, hl⟩ | ⟨hj, e⟩
    · exact ⟨p, List.getElem?_set_self (by rw [← k.len]; exact hl), cio, nF, nG, vs, upd_same, r⟩
    · have z : (σ.set i (some (.ref p)))[j]? = σ[j]? := List.getElem?_set_ne (Ne.symm hj)
      have q := gr e
      cases s with
      | no => trivial
      | val d => obtain ⟨v, h1, h2⟩ := q; exact ⟨v, z.trans h1, h2⟩
      | lst l => obtain ⟨a, h1, h2⟩ := q; exact ⟨a, z.trans h1, h2⟩
      | iol l => obtain ⟨a, h1, h2⟩ := q; exact ⟨a, z.trans h1, h2⟩
  · rcases set_get e1 with ⟨rfl, rfl, hl⟩ | ⟨hj, e1'⟩
    · rw [List.getElem?_set_self (by rw [← k.len]; exact hl)] at h1
      cases h1
      rcases set_get e2 with ⟨rfl, rfl, hl⟩ | ⟨hm, e2'⟩
      · rfl
      · rw [List.getElem?_set_ne (Ne.symm hm)] at h2
        exact absurd rfl (old ⟨⟨t, e2', o2⟩, h2⟩)
    · rw [List.getElem?_set_ne (Ne.symm hj)] at h1
      rcases set_get e2 with ⟨rfl, rfl, hl⟩ | ⟨hm, e2'⟩
      · rw [List.getElem?_set_self (by rw [← k.len]; exact hl)] at h2
        cases h2
        exact absurd rfl (old ⟨⟨s, e1', o1⟩, h1⟩)
      · rw [List.getElem?_set_ne (Ne.symm hm)] at h2
        exact k.apart j m b ⟨⟨s, e1', o1⟩, h1⟩ ⟨⟨t, e2', o2⟩, h2⟩
  · obtain ⟨l', z⟩ := k.ioc j b e
    have hj : j ≠ i := fun z' => hio l' (z' ▸ z)
    exact ⟨l', by rw [List.getElem?_set_ne (Ne.symm hj)]; exact z⟩
theorem vs_setN {i : Nat} {mn : M (List D)} (h : PS X st (tAsg (tN c mn) (gName i))) : PS X st (tS c (sSetN i mn)) :=
  ps_weak h fun D σ H ⟨ρ, F, G, k, h⟩ => by
    refine ⟨ρ, F, G, k, ?_⟩
    unfold sSetN sBind at h
    cases q : mn ρ with
    | bad => simp only [q] at h; exact h
    | exc x ρ' => simp only [q] at h; exact fun H' F' e k' => h σ H' F' e k'
    | ok l ρ' =>
      simp only [q] at h
      intro p vs H' F' e k' hp rv
      cases q2 : put i (.lst (.li l)) ρ' with
      | none => simp only [q2] at h; exact h.elim
      | some ρ2 =>
        simp only [q2] at h
        obtain ⟨rfl, hio, hl⟩ := put_some q2
        exact h _ _ F' e (k'.setOwn hp ⟨_, rfl, rv⟩ hio)
theorem vs_setB {i : Nat} {mn : M Box} (h : PS X st (tAsg (tB c mn) (gName i))) : PS X st (tS c (sSetB i mn)) :=
  ps_weak h fun D σ H ⟨ρ, F, G, k, h⟩ => by
    refine ⟨ρ, F, G, k, ?_⟩
    unfold sSetB sBind at h
    cases q : mn ρ with
    | bad => simp only [q] at h; exact h
    | exc x ρ' => simp only [q] at h; exact fun H' F' e k' => h σ H' F' e k'
    | ok l ρ' =>
      simp only [q] at h
      intro p vs H' F' e k' hp rv
      cases q2 : put i (.lst l) ρ' with
      | none => simp only [q2] at h; exact h.elim
      | some ρ2 =>
        simp only [q2] at h
        obtain ⟨rfl, hio, hl⟩ := put_some q2
        exact h _ _ F' e (k'.setOwn hp rv hio)
theorem tAsg_weak {te te' : TE} {g : TG} (h : PS X st (tAsg te g)) (w : ∀ σ H Q, te' σ H Q → te σ H Q) : PS X st (tAsg te' g) := ps_weak h fun D σ H q => w σ H _ q
theorem vs_aug {i : Nat} {r : R2} {g : D → D → Option D} (sim : Sim2 c.K r g) (h : PS X st (tAug i (tM c m) r)) : PS X st (tS c (sAug i g m)) :=
  ps_weak h fun D σ H ⟨ρ, F, G, k, h⟩ => by
    unfold sAug at h
    cases q : ρ[i]? with
    | none => simp only [q] at h; exact h.elim
    | some s =>
      cases s with
      | val d =>
        simp only [q] at h
        obtain ⟨v, h1, h2⟩ := k.slot i _ q
        refine ⟨v, h1, ρ, F, G, k, (Sn.bind (rep := RepR c σ) h).imp fun x H1 ⟨ρ1, F1, u, e1, k1, r1, h3⟩ => ?_⟩
        cases q1 : look ρ1 u with
        | none => simp only [q1] at h3; exact h3.elim
        | some e =>
          simp only [q1] at h3
          cases q2 : g d e with
          | none => simp only [q2] at h3; exact h3.elim
          | some z =>
            simp only [q2] at h3
            refine sim v x H1 F1 d e z _ k1.fh (Rp.dq (h2.le e1.le) k1.fh) (look_dq k1 r1 q1) q2 fun y H2 F2 gr rv => ?_
            cases q3 : put i (.val z) ρ1 with
            | none => simp only [q3] at h3; exact h3.elim
            | some ρ2 =>
              simp only [q3] at h3
              obtain ⟨rfl, hio, hl⟩ := put_some q3
              exact h3 _ H2 F2 (gr.ext k1.gh) ((k1.grow gr).set rv hio)
      | no => simp only [q] at h; exact h.elim
      | lst l => simp only [q] at h; exact h.elim
      | iol l => simp only [q] at h; exact h.elim
theorem vs_par2 {i j : Nat} {ms : M (List R)} (h : PS X st (tPar i j (tDs c (mFrzs ms)))) : PS X st (tS c (sPar [i, j] ms)) :=
  ps_weak h fun D σ H ⟨ρ, F, G, k, h⟩ => by
    refine ⟨ρ, F, G, k, (Sn.bind (rep := RepDs c) h).imp fun xs H1 ⟨ρ1, F1, ds, e1, k1, r1, h1⟩ => ?_⟩
    have r1 : RpAll c.K F1 xs ds := r1
    match ds, r1, h1 with
    | [], _, h1 => exact h1.elim
    | [d], _, h1 =>
      unfold puts at h1
      cases q : put i (.val d) ρ1 with
      | none => simp only [q] at h1; exact h1.elim
      | some ρ2 => simp only [q, puts] at h1; exact h1.elim
    | [d, d'], .cons ra (.cons rb .nil), h1 =>
      unfold puts at h1
      cases q : put i (.val d) ρ1 with
      | none => simp only [q] at h1; exact h1.elim
      | some ρ2 =>
        simp only [q] at h1
        unfold puts at h1
        cases q' : put j (.val d') ρ2 with
        | none => simp only [q'] at h1; exact h1.elim
        | some ρ3 =>
          simp only [q', puts] at h1
          obtain ⟨rfl, hio, hl⟩ := put_some q
          obtain ⟨rfl, hio', hl'⟩ := put_some q'
          exact ⟨_, _, rfl, h1 _ H1 F1 (Ext.refl G F1) ((k1.set ra hio).set rb hio')⟩
    | d :: d' :: d'' :: r, _, h1 =>
      unfold puts at h1
      cases q : put i (.val d) ρ1 with
      | none => simp only [q] at h1; exact h1.elim
      | some ρ2 =>
        simp only [q] at h1
        unfold puts at h1
        cases q' : put j (.val d') ρ2 with
        | none => simp only [q'] at h1; exact h1.elim
        | some ρ3 => simp only [q', puts] at h1; exact h1.elim
theorem vs_par3 {i j l : Nat} {ms : M (List R)} (h : PS X st (tPar3 i j l (tDs c (mFrzs ms)))) : PS X st (tS c (sPar [i, j, l] ms)) :=
  ps_weak h fun D σ H ⟨ρ, F, G, k, h⟩ => by
    refine ⟨ρ, F, G, k, (Sn.bind (rep := RepDs c) h).imp fun xs H1 ⟨ρ1, F1, ds, e1, k1, r1, h1⟩ => ?_⟩
    have r1 : RpAll c.K F1 xs ds := r1
    match ds, r1, h1 with
    | [], _, h1 => exact h1.elim
    | d :: ds, .cons ra rr, h1 =>
      unfold puts at h1
      cases q : put i (.val d) ρ1 with
      | none => simp only [q] at h1; exact h1.elim
      | some ρ2 =>
        simp only [q] at h1
        match ds, rr, h1 with
        | [], _, h1 => exact h1.elim
        | d' :: ds, .cons rb rr, h1 =>
          unfold puts at h1
          cases q' : put j (.val d') ρ2 with
          | none => simp only [q'] at h1; exact h1.elim
          | some ρ3 =>
            simp only [q'] at h1
            match ds, rr, h1 with
            | [], _, h1 => exact h1.elim
            | d'' :: ds, .cons rc rr, h1 =>
              unfold puts at h1
              cases q'' : put l (.val d'') ρ3 with
              | none => simp only [q''] at h1; exact h1.elim
              | some ρ4 =>
                simp only [q''] at h1
                match ds, rr, h1 with
                | [], .nil, h1 =>
                  obtain ⟨rfl, hio, hl⟩ := put_some q
                  obtain ⟨rfl, hio', hl'⟩ := put_some q'
                  obtain ⟨rfl, hio'', hl''⟩ := put_some q''
                  exact ⟨_, _, _, rfl, h1 _ H1 F1 (Ext.refl G F1) (((k1.set ra hio).set rb hio').set rc hio'')⟩
                | _ :: _, _, h1 => exact h1.elim

/-! ### loops -/
theorem vs_while {fuel : Nat} (hp : PassesOwn (model X.prog X.w) X.A X.env X.xe) (hc : PT X e (tT c mt)) (hb : PSs X sts (tS c s)) : PS X (.While e sts [] pos) (tS c (sWhile mt s fuel)) :=
  ps_weak (ps_while hp hc hb) fun D σ H ⟨ρ, F, G, k, h⟩ => by
    refine ⟨fun n σ H => ∃ ρ F, Ok c G ρ σ H F ∧ Sn c G F D (sWhile mt s n ρ), ⟨fuel, ρ, F, k, h⟩, fun n σ H ⟨ρ, F, k, h⟩ => ?_⟩
    cases n with
    | zero => exact h.elim
    | succ n =>
      refine ⟨ρ, F, G, k, ?_⟩
      unfold sWhile at h
      cases q : mt ρ with
      | bad => simp only [q] at h; exact h
      | exc x ρ' => simp only [q] at h; exact fun H' F' e k' => h σ H' F' e k'
      | ok b ρ1 =>
        intro b' H1 F1 e1 k1 rb
        have rb : b' = b := rb
        subst rb
        cases b' with
        | false =>
          simp only [q] at h
          rw [if_neg Bool.false_ne_true]
          exact h σ H1 F1 e1 k1
        | true =>
          simp only [q] at h
          rw [if_pos rfl]
          refine ⟨_, fun σ' H' w => ⟨n, Nat.lt_succ_self n, w⟩, ρ1, F1, G, k1, ?_⟩
          cases q2 : s ρ1 with
          | bad => simp only [q2] at h; exact h
          | exc x ρ' => simp only [q2] at h; exact h.ext e1
          | nx ρ2 => simp only [q2] at h; exact fun σ' H' F' e' k' => ⟨ρ2, F', k', (h.ext e1).ext e'⟩
          | ct ρ2 => simp only [q2] at h; exact fun σ' H' F' e' k' => ⟨ρ2, F', k', (h.ext e1).ext e'⟩
          | bk ρ2 => simp only [q2] at h; exact fun σ' H' F' e' k' => h σ' H' F' (e1.trans e') k'
          | rt d ρ2 => simp only [q2] at h; exact fun v σ' H' F' e' k' r => h v σ' H' F' (e1.trans e') k' r
theorem drop_cons {l : List D} {i : Nat} {d : D} (h : l[i]? = some d) : l.drop i = d :: l.drop (i + 1) := by
  obtain ⟨hl, rfl⟩ := List.getElem?_eq_some_iff.mp h
  exact List.drop_eq_getElem_cons hl
theorem vs_for {tg iter : Expr} {mi : M (List D)} {t : Tgt} {is : List Nat} (hp : PassesOwn (model X.prog X.w) X.A X.env X.xe) (hc : X.calm = true) (hi : PI X tg iter (tI c mi)) (hg : PG X tg (tG c t is)) (hb : PSs X sts (tS c s))
    (hs : ∀ x, foldedSetIterable iter X.env x = pure x := by intro _; rfl) : PS X (.For tg iter sts [] pos) (tS c (sFor mi t s)) :=
  ps_weak (ps_for hp hc hi hg hb hs) fun D σ H ⟨ρ, F, G, k, h⟩ => by
    refine ⟨ρ, F, G, k, ?_⟩
    unfold sFor sBind at h
    cases q : mi ρ with
    | bad => simp only [q] at h; exact h
    | exc x ρ' => simp only [q] at h; exact fun H' F' e k' => h σ H' F' e k'
    | ok l ρ' =>
      simp only [q] at h
      intro J H1 F1 e1 k1 w
      refine ⟨fun i n σ H => n = l.length - i ∧ i ≤ l.length ∧ ∃ ρ F, HLe F1 F ∧ Ok c G ρ σ H F ∧ Sn c G F D (sLoop t s (l.drop i) ρ), ⟨l.length, by simp, Nat.zero_le _, ρ', F1, HLe.refl F1, k1, by simpa using h.ext e1⟩, ?_⟩
      rintro i n σ H ⟨rfl, hi, ρ, F, le, k, h⟩
      obtain ⟨w1, w2⟩ := w i H F le k.fh
      by_cases hlt : i < l.length
      · have hd : l[i]? = some l[i] := List.getElem?_eq_getElem hlt
        obtain ⟨go, y⟩ := w1 _ hd
        rw [drop_cons hd] at h
        refine .inr ⟨go, fun σ' H' => ∃ ρ F, HLe F1 F ∧ Ok c G ρ σ' H' F ∧ Sn c G F D (sLoop t s (l.drop (i + 1)) ρ), fun σ' H' ⟨ρ, F, a, b, cc⟩ => ⟨l.length - (i + 1), by omega, rfl, hlt, ρ, F, a, b, cc⟩, fun x H' yy => ?_⟩
        obtain ⟨F2, gr, r2⟩ := y x H' yy
        unfold sLoop at h
        cases q2 : t l[i] ρ with
        | none => simp only [q2] at h; exact h.elim
        | some ρ2 =>
          simp only [q2] at h
          refine ⟨ρ, F2, G, l[i], ρ2, k.grow gr, r2, q2, fun σ2 _ _ k2 => ?_⟩
          refine ⟨ρ2, F2, G, k2, ?_⟩
          have e2 := gr.ext k.gh
          cases q3 : s ρ2 with
          | bad => simp only [q3] at h; exact h
          | exc x ρ' => simp only [q3] at h; exact h.ext e2
          | nx ρ3 => simp only [q3] at h; exact fun σ' H' F' e' k' => ⟨ρ3, F', le.trans (e2.trans e').le, k', (h.ext e2).ext e'⟩
          | ct ρ3 => simp only [q3] at h; exact fun σ' H' F' e' k' => ⟨ρ3, F', le.trans (e2.trans e').le, k', (h.ext e2).ext e'⟩
          | bk ρ3 => simp only [q3] at h; exact fun σ' H' F' e' k' => h σ' H' F' (e2.trans e') k'
          | rt d ρ3 => simp only [q3] at h; exact fun v σ' H' F' e' k' r => h v σ' H' F' (e2.trans e') k' r
      · have ei : i = l.length := by omega
        subst ei
        rw [List.drop_length] at h
        exact .inl ⟨w2 (Nat.le_refl _), h σ H F (Ext.refl G F) k⟩
end
end VL

set_option Elab.async false
set_option linter.all false
set_option autoImplicit false
set_option maxRecDepth 100000
namespace VL
open PySem PySem.Spec PyProof.Rows L2

/-! ### list comprehensions -/
def wipeR : List Nat → Rho → Option Rho
  | [], ρ => some ρ
  | v :: vs, ρ => match wipeR vs ρ with
    | some r => (match r[v]? with
      | some .no => some (r.set v .no)
      | some (.val _) => some (r.set v .no)
      | _ => none)
    | none => none
def unwipe : List Nat → Rho → Rho → Rho
  | [], _, r => r
  | v :: vs, ρ, r => (unwipe vs ρ r).set v (ρ.getD v .no)
def lcLoop (own : List Nat) (t : Tgt) (mt : M Bool) (me : M D) : List D → Rho → Res (List D)
  | [], ρ => .ok [] ρ
  | x :: xs, ρ => match wipeR own ρ with
    | none => .bad
    | some ρ0 => match t x ρ0 with
      | none => .bad
      | some ρ1 => match mt ρ1 with
        | .ok true ρ2 => (match me ρ2 with
          | .ok d ρ3 => (match lcLoop own t mt me xs (unwipe own ρ ρ3) with
            | .ok ds ρ' => .ok (d :: ds) ρ'
            | _ => .bad)
          | _ => .bad)
        | .ok false ρ2 => lcLoop own t mt me xs (unwipe own ρ ρ2)
        | _ => .bad
def mLc (own : List Nat) (mi : M (List D)) (t : Tgt) (mt : M Bool) (me : M R) : M (List D) := mBind mi fun l ρ => if lenOk l = true then lcLoop own t mt (mFrz me) l ρ else .bad
def Vx.blk (c : Vx) : Vx := { c with W := fun _ _ _ _ => False }
theorem Ok.cc {c c' : Vx} {G : Hp} {ρ : Rho} {σ : L2.St} {H F : Hp} (hK : c.K = c'.K) (hio : c.io = c'.io) (k : Ok c G ρ σ H F) : Ok c' G ρ σ H F := by
  obtain ⟨K, io, W, cls⟩ := c
  obtain ⟨K', io', W', cls'⟩ := c'
  cases hK
  cases hio
  refine ⟨k.fh, k.gh, k.len, fun i s e => ?_, k.apart, k.ioc⟩
  have q := k.slot i s e
  cases s <;> exact q

theorem Ok.toBlk {c : Vx} {G : Hp} {ρ : Rho} {σ : L2.St} {H F : Hp} (k : Ok c G ρ σ H F) : Ok c.blk G ρ σ H F := Ok.cc (c := c) (c' := c.blk) rfl rfl k
theorem Ok.ofBlk {c : Vx} {G : Hp} {ρ : Rho} {σ : L2.St} {H F : Hp} (k : Ok c.blk G ρ σ H F) : Ok c G ρ σ H F := Ok.cc (c := c.blk) (c' := c) rfl rfl k
section
variable {X : Cx} {c : Vx} {G : Hp} {ρ : Rho} {σ : L2.St} {H F F1 : Hp} {E : Ends}
theorem wipe_at : ∀ (vs : List Nat) (j : Nat), (wipe σ vs)[j]? = if j ∈ vs then (if j < σ.length then some none else none) else σ[j]?
  | [], j => by simp [wipe]
  | v :: vs, j => by
    unfold wipe
    by_cases e : v = j
    · subst e
      by_cases hl : v < σ.length
      · rw [List.getElem?_set_self (by rw [wipe_length]; exact hl)]; simp [hl]
      · rw [List.getElem?_eq_none (by rw [List.length_set, wipe_length]; omega)]; simp [hl]
    · rw [List.getElem?_set_ne e, wipe_at vs j]
      have : (j ∈ v :: vs) = (j ∈ vs) := by simp [Ne.symm e]
      simp only [this]
theorem wipe_wipe {σ2 : L2.St} {vs is : List Nat} (hl : σ2.length = (wipe σ vs).length) (ho : ∀ j, j ∉ is → σ2[j]? = (wipe σ vs)[j]?) (hs : ∀ j ∈ is, j ∈ vs) : wipe σ2 vs = wipe σ vs := by
  apply List.ext_getElem?
  intro j
  rw [wipe_length] at hl
  rw [wipe_at vs j, wipe_at (σ := σ) vs j]
  by_cases e : j ∈ vs
  · simp [e, hl]
  · have := ho j fun z => e (hs j z)
    rw [wipe_at] at this
    simpa [e] using this
theorem Ok.wipe : ∀ {own : List Nat} {ρ0 : Rho}, Ok c G ρ σ H F → wipeR own ρ = some ρ0 → Ok c G ρ0 (L2.wipe σ own) H F
  | [], ρ0, k, e => by cases e; exact k
  | v :: vs, ρ0, k, e => by
    unfold wipeR at e
    cases q : wipeR vs ρ with
    | none => simp only [q] at e; cases e
    | some r =>
      have k1 := Ok.wipe k q
      simp only [q] at e
      have off : ∀ j, j ≠ v → (L2.wipe σ (v :: vs))[j]? = (L2.wipe σ vs)[j]? := fun j hj => by
        show ((L2.wipe σ vs).set v none)[j]? = _
        exact List.getElem?_set_ne (Ne.symm hj)
      have ln : (L2.wipe σ (v :: vs)).length = (L2.wipe σ vs).length := by rw [wipe_length, wipe_length]
      cases q2 : r[v]? with
      | none => simp only [q2] at e; cases e
      | some s =>
        cases s with
        | no => simp only [q2] at e; cases e; exact k1.forget (fun l z => by rw [q2] at z; cases z) ln off
        | val d => simp only [q2] at e; cases e; exact k1.forget (fun l z => by rw [q2] at z; cases z) ln off
        | lst l => simp only [q2] at e; cases e
        | iol l => simp only [q2] at e; cases e
theorem unwipe_len : ∀ (vs : List Nat) (r : Rho), (unwipe vs ρ r).length = r.length
  | [], _ => rfl
  | v :: vs, r => by unfold unwipe; rw [List.length_set, unwipe_len vs r]
theorem unwipe_at {r : Rho} {s : SV} : ∀ {vs : List Nat} {j : Nat}, (unwipe vs ρ r)[j]? = some s → (j ∈ vs ∧ s = ρ.getD j .no) ∨ (j ∉ vs ∧ r[j]? = some s)
  | [], j, h => .inr ⟨by simp, h⟩
  | v :: vs, j, h => by
    unfold unwipe at h
    rcases set_get h with ⟨rfl, rfl, _⟩ | ⟨hj, h⟩
    · exact .inl ⟨by simp, rfl⟩
    · rcases unwipe_at h with ⟨h1, h2⟩ | ⟨h1, h2⟩
      · exact .inl ⟨by simp [h1], h2⟩
      · exact .inr ⟨by simp [h1, hj], h2⟩
theorem unwipe_off {r : Rho} : ∀ {vs : List Nat} {j : Nat}, j ∉ vs → (unwipe vs ρ r)[j]? = r[j]?
  | [], j, _ => rfl
  | v :: vs, j, h => by
    simp only [List.mem_cons, not_or] at h
    unfold unwipe
    rw [List.getElem?_set_ne (Ne.symm h.1), unwipe_off h.2]
theorem wipeR_flat : ∀ {vs : List Nat} {ρ0 : Rho} {j : Nat} {s : SV}, wipeR vs ρ = some ρ0 → j ∈ vs → ρ[j]? = some s → s.owned = false
  | [], _, _, _, _, h, _ => by simp at h
  | v :: vs, ρ0, j, s, e, h, hs => by
    unfold wipeR at e
    cases q : wipeR vs ρ with
    | none => simp only [q] at e; cases e
    | some r =>
      simp only [q] at e
      by_cases hj : j ∈ vs
      · exact wipeR_flat q hj hs
      · have e1 : j = v := by simpa [hj] using h
        subst e1
        have off : r[j]? = ρ[j]? := by
          clear e h hs
          have : ∀ {vs : List Nat} {r : Rho}, wipeR vs ρ = some r → j ∉ vs → r[j]? = ρ[j]? := fun {vs} => by
            induction vs with
            | nil => intro r e _; cases e; rfl
            | cons w ws ih =>
              intro r e hn
              simp only [List.mem_cons, not_or] at hn
              unfold wipeR at e
              cases q : wipeR ws ρ with
              | none => simp only [q] at e; cases e
              | some r' =>
                simp only [q] at e
                have z := ih q hn.2
                cases q2 : r'[w]? with
                | none => simp only [q2] at e; cases e
                | some s =>
                  cases s with
                  | no => simp only [q2] at e; cases e; rw [List.getElem?_set_ne (Ne.symm hn.1)]; exact z
                  | val d => simp only [q2] at e; cases e; rw [List.getElem?_set_ne (Ne.symm hn.1)]; exact z
                  | lst l => simp only [q2] at e; cases e
                  | iol l => simp only [q2] at e; cases e
          exact this q hj
        rw [off, hs] at e
        cases s with
        | no => rfl
        | val d => rfl
        | lst l => simp only at e; cases e
        | iol l => simp only at e; cases e
/-- behind the block: its own names are as they were -/
theorem Ok.unwipe {G0 : Hp} {own is : List Nat} {ρ0 ρ3 : Rho} {σ2 : L2.St} {H0 F0 : Hp} (k0 : Ok c G0 ρ σ H0 F0) (w : wipeR own ρ = some ρ0) (k : Ok c G ρ3 σ2 H F) (le : HLe F0 F) (hl : σ2.length = σ.length) (ho : ∀ j, j ∉ own → σ2[j]? = σ[j]?) : Ok c G (VL.unwipe own ρ ρ3) σ H F := by
  have flat : ∀ {j s}, j ∈ own → s = ρ.getD j .no → s.owned = false ∧ SlotOk c G σ H F j s := fun {j s} hj e => by
    subst e
    cases q : ρ[j]? with
    | none =>
      have e1 : ρ.getD j .no = .no := by rw [List.getD_eq_getElem?_getD, q]; rfl
      rw [e1]; exact ⟨rfl, trivial⟩
    | some s =>
      have e1 : ρ.getD j .no = s := by rw [List.getD_eq_getElem?_getD, q]; rfl
      rw [e1]
      have f := wipeR_flat w hj q
      have z := k0.slot j s q
      cases s with
      | no => exact ⟨rfl, trivial⟩
      | val d => obtain ⟨v, z1, z2⟩ := z; exact ⟨rfl, v, z1, z2.le le⟩
      | lst l => cases f
      | iol l => cases f
  have own' : ∀ {j a}, OwnAt (VL.unwipe own ρ ρ3) σ j a → OwnAt ρ3 σ2 j a := fun {j a} ⟨⟨s, e, o⟩, h1⟩ => by
    rcases unwipe_at e with ⟨hj, e⟩ | ⟨hj, e⟩
    · rw [(flat hj e).1] at o; cases o
    · exact ⟨⟨s, e, o⟩, by rw [ho j hj]; exact h1⟩
  refine ⟨k.fh, k.gh, by rw [unwipe_len, k.len, hl], fun j s e => ?_, fun i j a h1 h2 => k.apart i j a (own' h1) (own' h2), fun j a e => ?_⟩
  · rcases unwipe_at e with ⟨hj, e⟩ | ⟨hj, e⟩
    · exact (flat hj e).2
    · have q := k.slot j s e
      cases s with
      | no => trivial
      | val d => obtain ⟨v, h1, h2⟩ := q; exact ⟨v, by rw [← ho j hj]; exact h1, h2⟩
      | lst l => obtain ⟨a, h1, h2⟩ := q; exact ⟨a, by rw [← ho j hj]; exact h1, h2⟩
      | iol l => obtain ⟨a, h1, h2⟩ := q; exact ⟨a, by rw [← ho j hj]; exact h1, h2⟩
  · obtain ⟨l, q⟩ := k.ioc j a e
    have hj : j ∉ own := fun z => by
      obtain ⟨l', q'⟩ := k0.ioc j a e
      have := wipeR_flat w z q'
      cases this
    exact ⟨l, by rw [unwipe_off hj]; exact q⟩
/-- a pinned list at D grows -/
theorem Ok.grown {D : Addr} {o o' : HO} (k : Ok c (upd G D o) ρ σ H F) (hF : F D = none) : Ok c (upd G D o') ρ σ (upd H D o') F := by
  have nD : ∀ {j a}, OwnAt ρ σ j a → a ≠ D := fun {j a} ⟨⟨s, e, ho⟩, h1⟩ z => by
    subst z
    obtain ⟨a', l, _, h2, ⟨_, g, _⟩, _⟩ := k.own e ho
    rw [h1] at h2; cases h2
    rw [upd_same] at g; cases g
  refine ⟨fun b u e => ?_, fun b u e => ?_, k.len, fun j s e => ?_, k.apart, k.ioc⟩
  · by_cases eb : b = D
    · subst eb; rw [hF] at e; cases e
    · rw [upd_ne eb]; exact k.fh b u e
  · by_cases eb : b = D
    · subst eb; rw [upd_same] at e ⊢; exact e
    · rw [upd_ne eb] at e ⊢; exact k.gh b u (by rw [upd_ne eb]; exact e)
  · have q := k.slot j s e
    cases s with
    | no => trivial
    | val d => exact q
    | lst l =>
      obtain ⟨a, h1, h2, h3, h4, us, h5, h6⟩ := q
      have na := nD (j := j) (a := a) ⟨⟨_, e, rfl⟩, h1⟩
      exact ⟨a, h1, h2, h3, by rw [upd_ne na] at h4 ⊢; exact h4, us, by rw [upd_ne na]; exact h5, h6⟩
    | iol l =>
      obtain ⟨a, h1, h2, h3, h4, us, h5, h6⟩ := q
      have na := nD (j := j) (a := a) ⟨⟨_, e, rfl⟩, h1⟩
      exact ⟨a, h1, h2, h3, by rw [upd_ne na] at h4 ⊢; exact h4, us, by rw [upd_ne na]; exact h5, h6⟩
theorem le_updG {D : Addr} {o : HO} (h : G D = none) {F F' : Hp} (e : Ext (upd G D o) F F') : Ext G F F' := ⟨e.le, fun b u q => (e.new b u q).elim .inl fun z => .inr (by
  by_cases eb : b = D
  · subst eb; exact h
  · rw [upd_ne eb] at z; exact z)⟩
/-- the list at D taken out of the heap -/
def hole (H : Hp) (D : Addr) : Hp := fun b => if b = D then none else H b
theorem hole_same {H : Hp} {D : Addr} : hole H D D = none := if_pos rfl
theorem hole_ne {H : Hp} {D b : Addr} (h : b ≠ D) : hole H D b = H b := if_neg h
theorem hole_upd {H : Hp} {D : Addr} {o : HO} (h : H D = some o) : upd (hole H D) D o = H := by
  funext b
  by_cases e : b = D
  · subst e; rw [upd_same, h]
  · rw [upd_ne e, hole_ne e]
theorem Ok.hole {D : Addr} {o : HO} (k : Ok c (upd G D o) ρ σ H F) (hF : F D = none) (hG : G D = none) : Ok c G ρ σ (VL.hole H D) F := by
  have nD : ∀ {j a}, OwnAt ρ σ j a → a ≠ D := fun {j a} ⟨⟨s, e, ho⟩, h1⟩ z => by
    subst z
    obtain ⟨a', l, _, h2, ⟨_, g, _⟩, _⟩ := k.own e ho
    rw [h1] at h2; cases h2
    rw [upd_same] at g; cases g
  refine ⟨fun b u e => ?_, fun b u e => ?_, k.len, fun j s e => ?_, k.apart, k.ioc⟩
  · by_cases eb : b = D
    · subst eb; rw [hF] at e; cases e
    · rw [hole_ne eb]; exact k.fh b u e
  · by_cases eb : b = D
    · subst eb; rw [hG] at e; cases e
    · rw [hole_ne eb]; exact k.gh b u (by rw [upd_ne eb]; exact e)
  · have q := k.slot j s e
    cases s with
    | no => trivial
    | val d => exact q
    | lst l =>
      obtain ⟨a, h1, h2, h3, h4, us, h5, h6⟩ := q
      have na := nD (j := j) (a := a) ⟨⟨_, e, rfl⟩, h1⟩
      exact ⟨a, h1, h2, h3, by rw [upd_ne na] at h4; exact h4, us, by rw [hole_ne na]; exact h5, h6⟩
    | iol l =>
      obtain ⟨a, h1, h2, h3, h4, us, h5, h6⟩ := q
      have na := nD (j := j) (a := a) ⟨⟨_, e, rfl⟩, h1⟩
      exact ⟨a, h1, h2, h3, by rw [upd_ne na] at h4; exact h4, us, by rw [hole_ne na]; exact h5, h6⟩

/-- what is wanted of the rest of a comprehension's loop -/
def LcPost (c : Vx) (G : Hp) (σ : L2.St) (F : Hp) (Q : VK) (acc : List D) : Res (List D) → Prop
  | .ok ds ρ' => ∀ p vs H' F', Ext G F F' → Ok c G ρ' σ H' F' → H' p = none → RpAll c.K F' vs (acc ++ ds) → Q (.ref p) (upd H' p (.lst vs))
  | _ => False
theorem LcPost.ext {Q : VK} {acc : List D} {r : Res (List D)} (h : LcPost c G σ F Q acc r) (e : Ext G F F1) : LcPost c G σ F1 Q acc r := by
  cases r with
  | ok ds ρ' => exact fun p vs H' F' e' k => h p vs H' F' (e.trans e') k
  | bad => exact h
  | exc x ρ' => exact h
theorem lc_of {own is : List Nat} {mi : M (List D)} {t : Tgt} {mt : M Bool} {me : M R} {Q : VK} (hs : ∀ j ∈ is, j ∈ own) (h : tN c (mLc own mi t mt me) σ H Q) : tLc (tI c mi) (tG c.blk t is) (tT c.blk mt) (tD c.blk (mFrz me)) own σ H Q := by
  obtain ⟨ρ, F, G, k, h⟩ := h
  refine ⟨ρ, F, G, k, ?_⟩
  unfold mLc mBind at h
  cases q : mi ρ with
  | bad => simp only [q] at h; exact h
  | exc x ρ' => simp only [q] at h; exact h
  | ok l ρ' =>
    simp only [q] at h
    intro J H1 F1 e1 k1 w D hD
    have hln : lenOk l = true := by
      by_cases z : lenOk l = true
      · exact z
      · rw [if_neg z] at h; exact h.elim
    rw [if_pos hln] at h
    have hsz := lenOk_le hln
    have nF : F1 D = none := k1.fh.free hD
    have nG : G D = none := k1.gh.free hD
    -- the post of the whole loop
    have p0 : LcPost c G σ F1 Q [] (lcLoop own t mt (mFrz me) l ρ') := by
      cases z : lcLoop own t mt (mFrz me) l ρ' with
      | ok ds ρ2 => rw [z] at h; exact fun p vs H' F' e' k' hp rv => h p vs H' F' (e1.trans e') k' hp rv
      | bad => rw [z] at h; exact h
      | exc x ρ2 =>
        exfalso
        -- a comprehension's loop raises nothing
        have : ∀ l ρ x ρ2, lcLoop own t mt (mFrz me) l ρ ≠ .exc x ρ2 := by
          intro l
          induction l with
          | nil => intro ρ x ρ2 e; cases e
          | cons y ys ih =>
            intro ρ x ρ2 e
            unfold lcLoop at e
            cases z1 : wipeR own ρ with
            | none => simp only [z1] at e; cases e
            | some ρ0 =>
              simp only [z1] at e
              cases z2 : t y ρ0 with
              | none => simp only [z2] at e; cases e
              | some ρ1 =>
                simp only [z2] at e
                cases z3 : mt ρ1 with
                | bad => simp only [z3] at e; cases e
                | exc _ _ => simp only [z3] at e; cases e
                | ok b ρ3 =>
                  cases b with
                  | false => simp only [z3] at e; exact ih _ _ _ e
                  | true =>
                    simp only [z3] at e
                    cases z4 : mFrz me ρ3 with
                    | bad => simp only [z4] at e; cases e
                    | exc _ _ => simp only [z4] at e; cases e
                    | ok d ρ4 =>
                      simp only [z4] at e
                      cases z5 : lcLoop own t mt (mFrz me) ys (unwipe own ρ ρ4) with
                      | bad => simp only [z5] at e; cases e
                      | exc _ _ => simp only [z5] at e; cases e
                      | ok _ _ => simp only [z5] at e; cases e
        exact this _ _ _ _ z
    have k1' : Ok c (upd G D (.lst [])) ρ' σ (upd H1 D (.lst [])) F1 := by
      have nown : ∀ i a, OwnAt ρ' σ i a → a ≠ D := fun i a ⟨⟨s, e, ho⟩, hh1⟩ => by
        obtain ⟨a', l, _, hh2, ⟨_, _, us, hh3, _⟩, _⟩ := k1.own e ho
        rw [hh1] at hh2; cases hh2
        exact ne_of_none hh3 hD
      have gr : Grow H1 F1 (upd H1 D (.lst [])) F1 := ⟨HLe.put hD, HLe.refl _, k1.fh.trans (HLe.put hD), fun b o q => .inl q⟩
      refine (k1.grow gr).reG (fun b o e => ?_) fun i a ho => ?_
      · by_cases eb : b = D
        · subst eb; rw [upd_same] at e ⊢; exact e
        · rw [upd_ne eb] at e ⊢; exact k1.gh b o e
      · rw [upd_ne (nown i a ho)]
        obtain ⟨⟨s, e, o⟩, hh1⟩ := ho
        obtain ⟨a', l, _, hh2, ⟨_, g, _⟩, _⟩ := k1.own e o
        rw [hh1] at hh2; cases hh2
        exact g
    refine ⟨fun i n H => n = l.length - i ∧ i ≤ l.length ∧ ∃ ρ F acc accD, HLe F1 F ∧ F D = none ∧ Ok c (upd G D (.lst acc)) ρ σ H F ∧ RpAll c.K F acc accD ∧ acc.length ≤ i ∧ LcPost c G σ F Q accD (lcLoop own t mt (mFrz me) (l.drop i) ρ),
      ⟨l.length, by simp, Nat.zero_le _, ρ', F1, [], [], HLe.refl F1, nF, k1', .nil, Nat.le_refl _, by simpa using p0⟩, ?_⟩
    rintro i n H ⟨rfl, hi, ρ, F, acc, accD, le, hFD, k, ra, hla, hp⟩
    obtain ⟨w1, w2⟩ := w i H F le k.fh
    have hHD : H D = some (.lst acc) := k.gh D _ upd_same
    by_cases hlt : i < l.length
    · have hd : l[i]? = some l[i] := List.getElem?_eq_getElem hlt
      obtain ⟨go, y⟩ := w1 _ hd
      rw [drop_cons hd] at hp
      refine .inr ⟨go, fun H' => ∃ ρ F acc accD, HLe F1 F ∧ F D = none ∧ Ok c (upd G D (.lst acc)) ρ σ H' F ∧ RpAll c.K F acc accD ∧ acc.length ≤ i + 1 ∧ LcPost c G σ F Q accD (lcLoop own t mt (mFrz me) (l.drop (i + 1)) ρ),
        fun H' ⟨ρ, F, acc, accD, a1, a2, a3, a4, a5, a6⟩ => ⟨l.length - (i + 1), by omega, rfl, hlt, ρ, F, acc, accD, a1, a2, a3, a4, a5, a6⟩, fun x H' yy => ?_⟩
      obtain ⟨F2, gr, r2⟩ := y x H' yy
      have k2 := k.grow gr
      have hF2 : F2 D = none := by
        cases z : F2 D with
        | none => rfl
        | some u =>
          rcases gr.new D u z with z' | z'
          · rw [hFD] at z'; cases z'
          · rw [hHD] at z'; cases z'
      have eG : Ext G F F2 := le_updG nG (gr.ext k.gh)
      unfold lcLoop at hp
      cases z1 : wipeR own ρ with
      | none => simp only [z1] at hp; exact hp.elim
      | some ρ0 =>
        simp only [z1] at hp
        have k3 := k2.wipe z1
        cases z2 : t l[i] ρ0 with
        | none => simp only [z2] at hp; exact hp.elim
        | some ρ1 =>
          simp only [z2] at hp
          refine ⟨ρ0, F2, upd G D (.lst acc), l[i], ρ1, k3.toBlk, r2, z2, fun σ2 hl2 ho2 k4 => ?_⟩
          refine ⟨wipe_wipe hl2 ho2 hs, ρ1, F2, upd G D (.lst acc), k4, ?_⟩
          have hl2' : σ2.length = σ.length := by rw [hl2, wipe_length]
          have ho2' : ∀ j, j ∉ own → σ2[j]? = σ[j]? := fun j hj => by
            rw [ho2 j fun z => hj (hs j z), wipe_at, if_neg hj]
          cases z3 : mt ρ1 with
          | bad => simp only [z3] at hp; exact hp
          | exc x ρ3 => simp only [z3] at hp; exact fun H' F' _ _ => hp.elim
          | ok b ρ2 =>
            intro b' H3 F3 e3 k5 rb
            have rb : b' = b := rb
            subst rb
            have hF3 : F3 D = none := by
              cases z : F3 D with
              | none => rfl
              | some u =>
                rcases e3.new D u z with z' | z'
                · rw [hF2] at z'; cases z'
                · rw [upd_same] at z'; cases z'
            cases b' with
            | false =>
              simp only [z3] at hp
              rw [if_neg Bool.false_ne_true]
              have k6 : Ok c (upd G D (.lst acc)) (unwipe own ρ ρ2) σ H3 F3 := Ok.unwipe (is := is) k2 z1 k5.ofBlk e3.le hl2' ho2'
              exact ⟨_, F3, acc, accD, le.trans (gr.ff.trans e3.le), hF3, k6, RpAll.le (gr.ff.trans e3.le) ra, by omega, hp.ext (eG.trans (le_updG nG e3))⟩
            | true =>
              simp only [z3] at hp
              rw [if_pos rfl]
              refine ⟨ρ2, F3, upd G D (.lst acc), k5, ?_⟩
              cases z4 : mFrz me ρ2 with
              | bad => simp only [z4] at hp; exact hp
              | exc x ρ3 => simp only [z4] at hp; exact fun H' F' _ _ => hp.elim
              | ok d ρ3 =>
                simp only [z4] at hp
                intro v H4 F4 e4 k7 rv
                have hF4 : F4 D = none := by
                  cases z : F4 D with
                  | none => rfl
                  | some u =>
                    rcases e4.new D u z with z' | z'
                    · rw [hF3] at z'; cases z'
                    · rw [upd_same] at z'; cases z'
                refine ⟨acc, k7.gh D _ upd_same, by omega, ?_⟩
                have k8 : Ok c (upd G D (.lst acc)) (unwipe own ρ ρ3) σ H4 F4 := Ok.unwipe (is := is) k2 z1 k7.ofBlk (e3.le.trans e4.le) hl2' ho2'
                have lle := gr.ff.trans (e3.le.trans e4.le)
                refine ⟨_, F4, acc ++ [v], accD ++ [d], le.trans lle, hF4, k8.grown hF4, (RpAll.le lle ra).append (.cons rv .nil), by simp; omega, ?_⟩
                have e5 : Ext G F F4 := (eG.trans (le_updG nG e3)).trans (le_updG nG e4)
                cases z5 : lcLoop own t mt (mFrz me) (l.drop (i + 1)) (unwipe own ρ ρ3) with
                | bad => simp only [z5] at hp; exact hp.elim
                | exc x ρ4 => simp only [z5] at hp; exact hp.elim
                | ok ds ρ4 =>
                  simp only [z5] at hp
                  intro p vs H' F' e' k' hpn rvs
                  exact hp p vs H' F' (e5.trans e') k' hpn (by simpa using rvs)
    · have ei : i = l.length := by omega
      subst ei
      rw [List.drop_length] at hp
      refine .inl ⟨w2 (Nat.le_refl _), ?_⟩
      have z := hp D acc (VL.hole H D) F (Ext.refl G F) (k.hole hFD nG) hole_same (by simpa using ra)
      rw [hole_upd hHD] at z
      exact z
end
end VL

set_option Elab.async false
set_option linter.all false
set_option autoImplicit false
set_option maxRecDepth 100000
namespace VL
open PySem PySem.Spec PyProof.Rows L2

/-! ### calls of defs -/
abbrev Fn := List SV → SRes
def toArgs (ρ : Rho) : List R → Option (List SV)
  | [] => some []
  | .v d :: rs => (toArgs ρ rs).map (.val d :: ·)
  | .b i :: rs => match ρ[i]? with
    | some (.val d) => (toArgs ρ rs).map (.val d :: ·)
    | some (.lst l) => (toArgs ρ rs).map (.iol l :: ·)
    | some (SV.iol l) => (toArgs ρ rs).map (.iol l :: ·)
    | _ => none
def once : List R → Bool
  | [] => true
  | .v _ :: rs => once rs
  | .b i :: rs => (rs.all fun r => match r with | .b j => decide (j ≠ i) | _ => true) && once rs
/-- what the callee left in the lists that were handed in -/
def back : List R → List SV → Rho → Option Rho
  | [], _, ρ => some ρ
  | .v _ :: rs, ss, ρ => back rs ss.tail ρ
  | .b i :: rs, ss, ρ => (match ρ[i]? with
    | some (.val _) => back rs ss.tail ρ
    | some (.lst _) => (match ss.head? with
      | some (.iol l) => back rs ss.tail (ρ.set i (.lst l))
      | _ => none)
    | some (SV.iol _) => (match ss.head? with
      | some (.iol l) => back rs ss.tail (ρ.set i (.iol l))
      | _ => none)
    | _ => none)
def callEnd (rs : List R) (ρ : Rho) : SRes → Res R
  | .rt d ρ' => (match back rs ρ' ρ with
    | some ρ2 => .ok (.v d) ρ2
    | none => .bad)
  | .nx ρ' => (match back rs ρ' ρ with
    | some ρ2 => .ok (.v .none) ρ2
    | none => .bad)
  | .exc x ρ' => (match back rs ρ' ρ with
    | some ρ2 => .exc x ρ2
    | none => .bad)
  | _ => .bad
def callD (f : Fn) (n : Nat) (rs : List R) (ρ : Rho) : Res R := if (decide (rs.length = n) && once rs) = true then (match toArgs ρ rs with
  | some args => callEnd rs ρ (f args)
  | none => .bad) else .bad
def mCall (f : Fn) (n : Nat) (ms : M (List R)) : M R := mBind ms fun rs ρ => callD f n rs ρ

/-- the arguments in the heap -/
structure ArgsOk (K : PySem.W.Frag) (H F : Hp) (vs : List V) (args : List SV) : Prop where
  len : vs.length = args.length
  at_ : ∀ (k : Nat) (s : SV), args[k]? = some s → match s with
    | .val d => ∃ v, vs[k]? = some v ∧ Rp K F v d
    | .iol l => ∃ a, vs[k]? = some (V.ref a) ∧ F a = none ∧ ∃ us, H a = some us ∧ BoxIs K F us l
    | _ => False
  apart : ∀ (k j : Nat) (a : Addr) (l l' : Box), args[k]? = some (SV.iol l) → args[j]? = some (SV.iol l') → vs[k]? = some (V.ref a) → vs[j]? = some (V.ref a) → k = j
def IoAt (vs : List V) (args : List SV) (b : Addr) : Prop := ∃ (k : Nat) (l : Box), args[k]? = some (SV.iol l) ∧ vs[k]? = some (V.ref b)
structure After (K : PySem.W.Frag) (H F : Hp) (vs : List V) (args : List SV) (ρ' : Rho) (H' F' : Hp) : Prop where
  le : HLe F F'
  fh : HLe F' H'
  new : ∀ b o, F' b = some o → F b = some o ∨ H b = none
  keep : ∀ b o, H b = some o → ¬ IoAt vs args b → H' b = some o
  io : ∀ (k : Nat) (l : Box) (a : Addr), args[k]? = some (SV.iol l) → vs[k]? = some (V.ref a) → ∃ (l' : Box) (us : HO), ρ'[k]? = some (SV.iol l') ∧ H' a = some us ∧ BoxIs K F' us l'
def CallPost (K : PySem.W.Frag) (cls : String → Value) (H F : Hp) (vs : List V) (args : List SV) (Q : VK) (E : XK) : SRes → Prop
  | .rt d ρ' => ∀ v H' F', After K H F vs args ρ' H' F' → Rp K F' v d → Q v H'
  | .nx ρ' => ∀ H' F', After K H F vs args ρ' H' F' → Q .non H'
  | .exc x ρ' => ∀ H' F', After K H F vs args ρ' H' F' → E (cls x) none H'
  | _ => False
def spM (K : PySem.W.Frag) (cls : String → Value) (f : Fn) (n : Nat) : Sp := fun vs H Q E => ∃ args F, args.length = n ∧ HLe F H ∧ ArgsOk K H F vs args ∧ CallPost K cls H F vs args Q E (f args)

section
variable {X : Cx} {c : Vx} {G : Hp} {ρ : Rho} {σ : L2.St} {H F F1 : Hp} {E : Ends}
def KindOf (ρ : Rho) (r : R) (s : SV) : Prop := (∃ d, r = .v d ∧ s = .val d) ∨ ∃ i, r = .b i ∧ ((∃ d, ρ[i]? = some (.val d) ∧ s = .val d) ∨ ∃ l, (ρ[i]? = some (.lst l) ∨ ρ[i]? = some (SV.iol l)) ∧ s = .iol l)
def ArgAt (c : Vx) (σ : L2.St) (ρ : Rho) (F : Hp) (rs : List R) (xs : List V) (args : List SV) : Prop :=
  xs.length = args.length ∧ ∀ (k : Nat) (s : SV), args[k]? = some s → ∃ r x, rs[k]? = some r ∧ xs[k]? = some x ∧ RepR c σ ρ F r x ∧ KindOf ρ r s
theorem argAt_cons {rs : List R} {xs : List V} {as : List SV} {r : R} {x : V} {s : SV} (h : ArgAt c σ ρ F rs xs as) (h1 : RepR c σ ρ F r x) (h2 : KindOf ρ r s) : ArgAt c σ ρ F (r :: rs) (x :: xs) (s :: as) := by
  obtain ⟨l1, l2⟩ := h
  refine ⟨by simp [l1], fun k t h => ?_⟩
  cases k with
  | zero =>
    have : s = t := by simpa using h
    subst this
    exact ⟨r, x, rfl, rfl, h1, h2⟩
  | succ k =>
    obtain ⟨r', x', a1, a2, a3, a4⟩ := l2 k t (by simpa using h)
    exact ⟨r', x', by simpa using a1, by simpa using a2, a3, a4⟩
theorem toArgs_at : ∀ {rs : List R} {xs : List V} {args : List SV}, RepRs c σ ρ F rs xs → toArgs ρ rs = some args → ArgAt c σ ρ F rs xs args
  | [], [], args, _, e => by
    have : ([] : List SV) = args := Option.some.inj e
    subst this
    exact ⟨rfl, fun k s h => by simp at h⟩
  | r :: rs, x :: xs, args, hr, e => by
    cases r with
    | v d =>
      unfold toArgs at e
      cases q : toArgs ρ rs with
      | none => rw [q] at e; cases e
      | some as =>
        rw [q] at e
        cases e
        exact argAt_cons (toArgs_at hr.2 q) hr.1 (.inl ⟨d, rfl, rfl⟩)
    | b i =>
      unfold toArgs at e
      cases q2 : ρ[i]? with
      | none => simp only [q2] at e; cases e
      | some s =>
        cases q : toArgs ρ rs with
        | none => cases s <;> simp only [q2, q] at e <;> cases e
        | some as =>
          cases s with
          | no => simp only [q2] at e; cases e
          | val d => simp only [q2, q] at e; cases e; exact argAt_cons (toArgs_at hr.2 q) hr.1 (.inr ⟨i, rfl, .inl ⟨d, q2, rfl⟩⟩)
          | lst l => simp only [q2, q] at e; cases e; exact argAt_cons (toArgs_at hr.2 q) hr.1 (.inr ⟨i, rfl, .inr ⟨l, .inl q2, rfl⟩⟩)
          | iol l => simp only [q2, q] at e; cases e; exact argAt_cons (toArgs_at hr.2 q) hr.1 (.inr ⟨i, rfl, .inr ⟨l, .inr q2, rfl⟩⟩)
  | [], _ :: _, _, h, _ => h.elim
  | _ :: _, [], _, h, _ => h.elim
theorem once_at : ∀ {rs : List R} {k j i : Nat}, once rs = true → rs[k]? = some (R.b i) → rs[j]? = some (R.b i) → k = j
  | [], k, j, i, _, h, _ => by simp at h
  | r :: rs, k, j, i, e, h1, h2 => by
    have tail : once rs = true ∧ (r = .b i → ∀ m : Nat, rs[m]? ≠ some (R.b i)) := by
      cases r with
      | v d => exact ⟨e, fun z => by cases z⟩
      | b i' =>
        have e' : ((rs.all fun r => match r with | .b j => decide (j ≠ i') | _ => true) && once rs) = true := e
        rw [Bool.and_eq_true] at e'
        refine ⟨e'.2, fun z m hm => ?_⟩
        cases z
        have := List.all_eq_true.mp e'.1 _ (List.mem_of_getElem? hm)
        simp at this
    cases k with
    | zero =>
      cases j with
      | zero => rfl
      | succ j => exact absurd (by simpa using h2) (tail.2 (by simpa using h1) j)
    | succ k =>
      cases j with
      | zero => exact absurd (by simpa using h1) (tail.2 (by simpa using h2) k)
      | succ j => exact congrArg (· + 1) (once_at tail.1 (by simpa using h1) (by simpa using h2))
theorem tail_at {ss : List SV} {k : Nat} {s : SV} (h : ss.tail[k]? = some s) : ss[k + 1]? = some s := by
  cases ss with
  | nil => simp at h
  | cons x r => simpa using h
theorem back_at : ∀ {rs : List R} {ss : List SV} {ρ ρ2 : Rho}, back rs ss ρ = some ρ2 → ρ2.length = ρ.length ∧ ∀ (j : Nat) (s2 : SV), ρ2[j]? = some s2 →
    (ρ[j]? = some s2 ∧ ∀ k : Nat, rs[k]? = some (R.b j) → s2.owned = false) ∨ ∃ (k : Nat) (l : Box) (s : SV), rs[k]? = some (R.b j) ∧ ss[k]? = some (SV.iol l) ∧ ρ[j]? = some s ∧ ((∃ l0, s = .lst l0 ∧ s2 = .lst l) ∨ ∃ l0, s = .iol l0 ∧ s2 = .iol l)
  | [], ss, ρ, ρ2, e => by
    cases e; exact ⟨rfl, fun j s2 h => .inl ⟨h, fun k hk => by simp at hk⟩⟩
  | .v d :: rs, ss, ρ, ρ2, e => by
    have e : back rs ss.tail ρ = some ρ2 := e
    obtain ⟨l1, l2⟩ := back_at e
    refine ⟨l1, fun j s2 h => ?_⟩
    rcases l2 j s2 h with ⟨a, b⟩ | ⟨k, l, s', a1, a2, a3, a4⟩
    · exact .inl ⟨a, fun k hk => by
        cases k with
        | zero => simp at hk
        | succ k => exact b k (by simpa using hk)⟩
    · exact .inr ⟨k + 1, l, s', by simpa using a1, tail_at a2, a3, a4⟩
  | .b i :: rs, ss, ρ, ρ2, e => by
    unfold back at e
    cases q : ρ[i]? with
    | none => simp only [q] at e; cases e
    | some z =>
      have same : ∀ (X : SV) (l : Box), ss.head? = some (.iol l) → back rs ss.tail (ρ.set i X) = some ρ2 → ((∃ l0, z = .lst l0 ∧ X = .lst l) ∨ ∃ l0, z = .iol l0 ∧ X = .iol l) → (ρ2.length = ρ.length ∧ ∀ (j : Nat) (s2 : SV), ρ2[j]? = some s2 →
          (ρ[j]? = some s2 ∧ ∀ k : Nat, (R.b i :: rs)[k]? = some (R.b j) → s2.owned = false) ∨ ∃ (k : Nat) (l : Box) (s' : SV), (R.b i :: rs)[k]? = some (R.b j) ∧ ss[k]? = some (SV.iol l) ∧ ρ[j]? = some s' ∧ ((∃ l0, s' = .lst l0 ∧ s2 = .lst l) ∨ ∃ l0, s' = .iol l0 ∧ s2 = .iol l)) := fun X l es e hX => by
        obtain ⟨l1, l2⟩ := back_at e
        refine ⟨by rw [l1, List.length_set], fun j s2 h => ?_⟩
        rcases l2 j s2 h with ⟨a, b⟩ | ⟨k, l', s', a1, a2, a3, a4⟩
        · rcases set_get a with ⟨rfl, rfl, _⟩ | ⟨hj, a⟩
          · refine .inr ⟨0, l, z, rfl, by rw [← List.head?_eq_getElem?]; exact es, q, hX⟩
          · refine .inl ⟨a, fun k hk => ?_⟩
            cases k with
            | zero =>
              have : i = j := by simpa using hk
              exact absurd this.symm hj
            | succ k => exact b k (by simpa using hk)
        · rcases set_get a3 with ⟨rfl, rfl, _⟩ | ⟨hj, a3⟩
          · refine .inr ⟨k + 1, l', z, by simpa using a1, tail_at a2, q, ?_⟩
            rcases hX with ⟨l0, hz, hX⟩ | ⟨l0, hz, hX⟩
            · rcases a4 with ⟨l3, h3, h4⟩ | ⟨l3, h3, h4⟩
              · exact .inl ⟨l0, hz, h4⟩
              · rw [hX] at h3; cases h3
            · rcases a4 with ⟨l3, h3, h4⟩ | ⟨l3, h3, h4⟩
              · rw [hX] at h3; cases h3
              · exact .inr ⟨l0, hz, h4⟩
          · exact .inr ⟨k + 1, l', s', by simpa using a1, tail_at a2, a3, a4⟩
      cases z with
      | no => simp only [q] at e; cases e
      | val d =>
        simp only [q] at e
        obtain ⟨l1, l2⟩ := back_at e
        refine ⟨l1, fun j s2 h => ?_⟩
        rcases l2 j s2 h with ⟨a, b⟩ | ⟨k, l', s', a1, a2, a3, a4⟩
        · refine .inl ⟨a, fun k hk => ?_⟩
          cases k with
          | zero =>
            have : i = j := by simpa using hk
            subst this
            rw [q] at a
            cases a
            rfl
          | succ k => exact b k (by simpa using hk)
        · exact .inr ⟨k + 1, l', s', by simpa using a1, tail_at a2, a3, a4⟩
      | lst l0 =>
        cases q2 : ss.head? with
        | none => simp only [q, q2] at e; cases e
        | some s =>
          cases s with
          | iol l => simp only [q, q2] at e; exact same (.lst l) l q2 e (.inl ⟨l0, rfl, rfl⟩)
          | no => simp only [q, q2] at e; cases e
          | val d => simp only [q, q2] at e; cases e
          | lst d => simp only [q, q2] at e; cases e
      | iol l0 =>
        cases q2 : ss.head? with
        | none => simp only [q, q2] at e; cases e
        | some s =>
          cases s with
          | iol l => simp only [q, q2] at e; exact same (.iol l) l q2 e (.inr ⟨l0, rfl, rfl⟩)
          | no => simp only [q, q2] at e; cases e
          | val d => simp only [q, q2] at e; cases e
          | lst d => simp only [q, q2] at e; cases e
/-- behind a call -/
theorem Ok.after {rs : List R} {xs : List V} {args : List SV} {ρ' ρ2 : Rho} {H' F' : Hp} (k : Ok c G ρ σ H F) (hr : RepRs c σ ρ F rs xs) (ho : once rs = true) (ha : toArgs ρ rs = some args) (af : After c.K H F xs args ρ' H' F') (hb : back rs ρ' ρ = some ρ2) : Ext G F F' ∧ Ok c G ρ2 σ H' F' := by
  obtain ⟨la, ta⟩ := toArgs_at hr ha
  obtain ⟨lb, tb⟩ := back_at hb
  -- who is handed in
  have ioOwn : ∀ b, IoAt xs args b → ∃ (k i : Nat), rs[k]? = some (R.b i) ∧ OwnAt ρ σ i b := fun b ⟨kk, l, h1, h2⟩ => by
    obtain ⟨r, x, a1, a2, a3, a4⟩ := ta kk _ h1
    rcases a4 with ⟨d, rfl, e⟩ | ⟨i, rfl, ⟨d, _, e⟩ | ⟨l', e1, e2⟩⟩
    · cases e
    · cases e
    · rw [h2] at a2
      cases a2
      refine ⟨kk, i, a1, ?_, a3⟩
      rcases e1 with e1 | e1
      · exact ⟨_, e1, rfl⟩
      · exact ⟨_, e1, rfl⟩
  have ownIo : ∀ (kk i : Nat) (b : Addr), rs[kk]? = some (R.b i) → OwnAt ρ σ i b → ∃ l, args[kk]? = some (SV.iol l) ∧ xs[kk]? = some (V.ref b) := fun kk i b h1 ⟨⟨s, e, o⟩, h2⟩ => by
    have hk : kk < args.length := by
      have q : ∀ {rs : List R} {xs : List V} {m : Nat} {r : R}, RepRs c σ ρ F rs xs → rs[m]? = some r → m < xs.length := fun {rs} => by
        induction rs with
        | nil => intro xs m r _ h; simp at h
        | cons r0 rs ih =>
          intro xs m r hr h
          cases xs with
          | nil => exact hr.elim
          | cons x xs =>
            cases m with
            | zero => simp
            | succ m => have := ih hr.2 (by simpa using h); simp; omega
      have := q hr h1
      omega
    obtain ⟨r, x, a1, a2, a3, a4⟩ := ta kk _ (List.getElem?_eq_getElem hk)
    rw [h1] at a1
    cases a1
    have a3 : σ[i]? = some (some x) := a3
    rw [h2] at a3
    cases a3
    rcases a4 with ⟨d, e1, _⟩ | ⟨i', e1, ⟨d, e2, _⟩ | ⟨l', e2, e3⟩⟩
    · cases e1
    · cases e1; rw [e] at e2; cases e2; cases o
    · exact ⟨l', by rw [List.getElem?_eq_getElem hk, e3], a2⟩
  have notG : ∀ b, IoAt xs args b → G b = none := fun b h => by
    obtain ⟨_, i, _, ⟨s, e, o⟩, h2⟩ := ioOwn b h
    obtain ⟨a', l, _, h3, ⟨_, g, _⟩, _⟩ := k.own e o
    rw [h2] at h3; cases h3
    exact g
  have fNo : ∀ {b}, F b = none → H b ≠ none → F' b = none := fun {b} h1 h2 => by
    cases q : F' b with
    | none => rfl
    | some u =>
      rcases af.new b u q with z | z
      · rw [h1] at z; cases z
      · exact absurd z h2
  have ownedB : ∀ {j b}, OwnAt ρ2 σ j b → OwnAt ρ σ j b := fun {j b} ⟨⟨s, e, o⟩, h⟩ => by
    rcases tb j s e with ⟨a, _⟩ | ⟨_, _, s', _, _, a3, a4⟩
    · exact ⟨⟨s, a, o⟩, h⟩
    · refine ⟨⟨s', a3, ?_⟩, h⟩
      rcases a4 with ⟨_, rfl, _⟩ | ⟨_, rfl, _⟩ <;> rfl
  refine ⟨⟨af.le, fun b o q => (af.new b o q).elim .inl fun z => .inr (k.gh.free z)⟩, ⟨af.fh, fun b o q => ?_, by rw [lb, k.len], fun j s e => ?_, fun i j a h1 h2 => k.apart i j a (ownedB h1) (ownedB h2), fun j a e => ?_⟩⟩
  · exact af.keep b o (k.gh b o q) fun h => by rw [notG b h] at q; cases q
  · rcases tb j s e with ⟨e0, hn⟩ | ⟨kk, l, s', h1, h2, h3, h4⟩
    · have z := k.slot j s e0
      have notIo : ∀ {a : Addr} {l : Box}, (s = SV.lst l ∨ s = SV.iol l) → σ[j]? = some (some (V.ref a)) → ¬ IoAt xs args a := fun {a l} hs ha h => by
        obtain ⟨kk, i, h1, h2⟩ := ioOwn a h
        have own : OwnAt ρ σ j a := ⟨⟨s, e0, by rcases hs with rfl | rfl <;> rfl⟩, ha⟩
        have : i = j := k.apart i j a h2 own
        subst this
        have := hn kk h1
        rcases hs with rfl | rfl <;> cases this
      cases s with
      | no => trivial
      | val d => obtain ⟨v, z1, z2⟩ := z; exact ⟨v, z1, z2.le af.le⟩
      | lst l => obtain ⟨a, z1, z2, z3, z4, us, z5, z6⟩ := z; exact ⟨a, z1, z2, fNo z3 (by rw [z5]; simp), z4, us, af.keep a _ z5 (notIo (.inl rfl) z1), BoxIs.le af.le z6⟩
      | iol l => obtain ⟨a, z1, z2, z3, z4, us, z5, z6⟩ := z; exact ⟨a, z1, z2, fNo z3 (by rw [z5]; simp), z4, us, af.keep a _ z5 (notIo (.inr rfl) z1), BoxIs.le af.le z6⟩
    · have z := k.slot j s' h3
      rcases h4 with ⟨l0, rfl, rfl⟩ | ⟨l0, rfl, rfl⟩
      · obtain ⟨a, z1, z2, z3, z4, us, z5, z6⟩ := z
        obtain ⟨l1, y1, y2⟩ := ownIo kk j a h1 ⟨⟨_, h3, rfl⟩, z1⟩
        obtain ⟨l', us', y3, y4, y5⟩ := af.io kk l1 a y1 y2
        rw [h2] at y3; cases y3
        exact ⟨a, z1, z2, fNo z3 (by rw [z5]; simp), z4, us', y4, y5⟩
      · obtain ⟨a, z1, z2, z3, z4, us, z5, z6⟩ := z
        obtain ⟨l1, y1, y2⟩ := ownIo kk j a h1 ⟨⟨_, h3, rfl⟩, z1⟩
        obtain ⟨l', us', y3, y4, y5⟩ := af.io kk l1 a y1 y2
        rw [h2] at y3; cases y3
        exact ⟨a, z1, z2, fNo z3 (by rw [z5]; simp), z4, us', y4, y5⟩
  · obtain ⟨l, e0⟩ := k.ioc j a e
    have hj : j < ρ2.length := by rw [lb]; exact (List.getElem?_eq_some_iff.mp e0).1
    rcases tb j _ (List.getElem?_eq_getElem hj) with ⟨a0, _⟩ | ⟨_, l', s', _, _, a3, a4⟩
    · rw [e0] at a0
      exact ⟨l, by rw [List.getElem?_eq_getElem hj]; exact a0.symm⟩
    · rw [e0] at a3
      cases a3
      rcases a4 with ⟨_, h, _⟩ | ⟨_, _, h⟩
      · cases h
      · exact ⟨l', by rw [List.getElem?_eq_getElem hj, h]⟩
theorem ArgsOk.of {rs : List R} {xs : List V} {args : List SV} (k : Ok c G ρ σ H F) (hr : RepRs c σ ρ F rs xs) (ho : once rs = true) (ha : toArgs ρ rs = some args) : ArgsOk c.K H F xs args := by
  obtain ⟨la, ta⟩ := toArgs_at hr ha
  refine ⟨la, fun kk s e => ?_, fun k1 j1 a l l' h1 h2 h3 h4 => ?_⟩
  · obtain ⟨r, x, a1, a2, a3, a4⟩ := ta kk s e
    rcases a4 with ⟨d, rfl, rfl⟩ | ⟨i, rfl, ⟨d, e1, rfl⟩ | ⟨l', e1, rfl⟩⟩
    · exact ⟨x, a2, a3⟩
    · obtain ⟨v, z1, z2⟩ := k.slot i _ e1
      have a3 : σ[i]? = some (some x) := a3
      rw [z1] at a3; cases a3
      exact ⟨_, a2, z2⟩
    · have a3 : σ[i]? = some (some x) := a3
      rcases e1 with e1 | e1
      · obtain ⟨a, z1, z2, z3, z4, us, z5, z6⟩ := k.slot i _ e1
        rw [z1] at a3; cases a3
        exact ⟨a, a2, z3, us, z5, z6⟩
      · obtain ⟨a, z1, z2, z3, z4, us, z5, z6⟩ := k.slot i _ e1
        rw [z1] at a3; cases a3
        exact ⟨a, a2, z3, us, z5, z6⟩
  · have own : ∀ {kk : Nat} {l : Box}, args[kk]? = some (SV.iol l) → xs[kk]? = some (V.ref a) → ∃ i : Nat, rs[kk]? = some (R.b i) ∧ OwnAt ρ σ i a := fun {kk l} h1 h2 => by
      obtain ⟨r, x, a1, a2, a3, a4⟩ := ta kk _ h1
      rcases a4 with ⟨d, rfl, e⟩ | ⟨i, rfl, ⟨d, _, e⟩ | ⟨l', e1, e2⟩⟩
      · cases e
      · cases e
      · rw [h2] at a2
        cases a2
        refine ⟨i, a1, ?_, a3⟩
        rcases e1 with e1 | e1
        · exact ⟨_, e1, rfl⟩
        · exact ⟨_, e1, rfl⟩
    obtain ⟨i, i1, i2⟩ := own h1 h3
    obtain ⟨j, j1', j2⟩ := own h2 h4
    have : i = j := k.apart i j a i2 j2
    subst this
    exact once_at ho i1 j1'
/-- the call, by the callee's promise -/
theorem call_end {f : Fn} {n : Nat} {rs : List R} {xs : List V} {Q : VK} (k : Ok c G ρ σ H F) (hr : RepRs c σ ρ F rs xs)
    (h : Wn c G σ F (RepR c σ) Q (callD f n rs ρ)) : spM c.K c.cls f n xs H Q (fun cls d H' => c.W cls d σ H') := by
  unfold callD at h
  by_cases ho2 : (decide (rs.length = n) && once rs) = true
  · rw [if_pos ho2] at h
    obtain ⟨hl, ho⟩ := Bool.and_eq_true_iff.mp ho2
    have hl := of_decide_eq_true hl
    have hn : ∀ args, toArgs ρ rs = some args → args.length = n := fun args e => by
      have : ∀ {rs : List R} {as : List SV}, toArgs ρ rs = some as → as.length = rs.length := fun {rs} => by
        induction rs with
        | nil => intro as e; cases e; rfl
        | cons r rs ih =>
          intro as e
          cases r with
          | v d =>
            unfold toArgs at e
            cases q : toArgs ρ rs with
            | none => rw [q] at e; cases e
            | some bs => rw [q] at e; cases e; simp [ih q]
          | b i =>
            unfold toArgs at e
            cases q2 : ρ[i]? with
            | none => simp only [q2] at e; cases e
            | some s =>
              cases q : toArgs ρ rs with
              | none => cases s <;> simp only [q2, q] at e <;> cases e
              | some bs => cases s <;> simp only [q2, q] at e <;> cases e <;> simp [ih q]
      rw [this e, hl]
    cases q : toArgs ρ rs with
    | none => simp only [q] at h; exact h.elim
    | some args =>
      simp only [q] at h
      refine ⟨args, F, hn args q, k.fh, ArgsOk.of k hr ho q, ?_⟩
      cases q2 : f args with
      | bad => rw [q2] at h; exact h.elim
      | bk ρ' => rw [q2] at h; exact h.elim
      | ct ρ' => rw [q2] at h; exact h.elim
      | rt d ρ' =>
        rw [q2] at h
        unfold callEnd at h
        cases q3 : back rs ρ' ρ with
        | none => simp only [q3] at h; exact h.elim
        | some ρ2 =>
          simp only [q3] at h
          intro v H' F' af rv
          obtain ⟨e, k'⟩ := k.after hr ho q af q3
          exact h v H' F' e k' rv
      | nx ρ' =>
        rw [q2] at h
        unfold callEnd at h
        cases q3 : back rs ρ' ρ with
        | none => simp only [q3] at h; exact h.elim
        | some ρ2 =>
          simp only [q3] at h
          intro H' F' af
          obtain ⟨e, k'⟩ := k.after hr ho q af q3
          exact h .non H' F' e k' .non
      | exc x ρ' =>
        rw [q2] at h
        unfold callEnd at h
        cases q3 : back rs ρ' ρ with
        | none => simp only [q3] at h; exact h.elim
        | some ρ2 =>
          simp only [q3] at h
          intro H' F' af
          obtain ⟨e, k'⟩ := k.after hr ho q af q3
          exact h H' F' e k'
  · rw [if_neg ho2] at h; exact h.elim
end

/-! ### a def's promise by its body -/
open Classical in
theorem def_of {K : PySem.W.Frag} {cls : String → Value} {N ps : List Str} {mb : MS} {vs : List V} {H : Hp} {Q : VK} {E : XK}
    (hps : N.length ≥ ps.length) (h : spM K cls (fun args => mb (args ++ List.replicate (N.length - ps.length) .no)) ps.length vs H Q E) :
    ∃ c : Vx, c.K = K ∧ c.cls = cls ∧ c.W = (fun cls d _ H' => E cls d H') ∧ tS c mb { nx := fun _ H' => Q .non H', rt := Q } (L2.start N vs) H := by
  obtain ⟨args, F, hl, fh, A, post⟩ := h
  have post : CallPost K cls H F vs args Q E (mb (args ++ List.replicate (N.length - ps.length) .no)) := post
  refine ⟨⟨K, fun i => match args[i]? with | some (SV.iol _) => (match vs[i]? with | some (V.ref a) => some a | _ => none) | _ => none, fun cls d _ H' => E cls d H', cls⟩, rfl, rfl, rfl, ?_⟩
  have hv : vs.length = ps.length := A.len.trans hl
  have cio : ∀ (i : Nat) (a : Addr), (match args[i]? with | some (SV.iol _) => (match vs[i]? with | some (V.ref a) => some a | _ => none) | _ => none) = some a ↔ ∃ l, args[i]? = some (SV.iol l) ∧ vs[i]? = some (V.ref a) := fun i a => by
    constructor
    · intro e
      cases q : args[i]? with
      | none => simp only [q] at e; cases e
      | some s =>
        cases s with
        | iol l =>
          simp only [q] at e
          cases q2 : vs[i]? with
          | none => simp only [q2] at e; cases e
          | some v =>
            cases v with
            | ref b => simp only [q2] at e; cases e; exact ⟨l, rfl, rfl⟩
            | _ => simp only [q2] at e; cases e
        | _ => simp only [q] at e; cases e
    · rintro ⟨l, e1, e2⟩
      simp only [e1, e2]
  have sg : ∀ (i : Nat) (v : V), vs[i]? = some v → (L2.start N vs)[i]? = some (some v) := fun i v e => by
    unfold L2.start
    have hi : i < vs.length := (List.getElem?_eq_some_iff.mp e).1
    rw [List.getElem?_append_left (by simpa using hi), List.getElem?_map, e]
    rfl
  have rg : ∀ (i : Nat) (s : SV), (args ++ List.replicate (N.length - ps.length) SV.no)[i]? = some s → args[i]? = some s ∨ s = .no := fun i s e => by
    by_cases hi : i < args.length
    · rw [List.getElem?_append_left hi] at e; exact .inl e
    · rw [List.getElem?_append_right (by omega)] at e
      exact .inr (List.eq_of_mem_replicate (List.mem_of_getElem? e))
  have sl : (L2.start N vs).length = N.length := by
    unfold L2.start
    rw [List.length_append, List.length_map, List.length_replicate]
    omega
  refine ⟨args ++ List.replicate (N.length - ps.length) .no, F, fun b => if IoAt vs args b then none else H b, ⟨fh, fun b o e => ?_, ?_, fun i s e => ?_, fun i j a ⟨⟨s, e1, o1⟩, h1⟩ ⟨⟨t, e2, o2⟩, h2⟩ => ?_, fun i a e => ?_⟩, ?_⟩
  · by_cases z : IoAt vs args b
    · simp only [if_pos z] at e; cases e
    · simp only [if_neg z] at e; exact e
  · rw [sl, List.length_append, List.length_replicate, hl]; omega
  · rcases rg i s e with e | rfl
    · have z := A.at_ i s e
      cases s with
      | no => exact z.elim
      | lst l => exact z.elim
      | val d => obtain ⟨v, z1, z2⟩ := z; exact ⟨v, sg i v z1, z2⟩
      | iol l =>
        obtain ⟨a, z1, z2, us, z3, z4⟩ := z
        exact ⟨a, sg i _ z1, (cio i a).mpr ⟨l, e, z1⟩, z2, if_pos ⟨i, l, e, z1⟩, us, z3, z4⟩
    · trivial
  · have one : ∀ {i : Nat} {s : SV}, (args ++ List.replicate (N.length - ps.length) SV.no)[i]? = some s → s.owned = true → (L2.start N vs)[i]? = some (some (V.ref a)) → ∃ l, args[i]? = some (SV.iol l) ∧ vs[i]? = some (V.ref a) := fun {i s} e o h => by
      rcases rg i s e with e | rfl
      · have z := A.at_ i s e
        cases s with
        | no => cases o
        | val d => cases o
        | lst l => exact z.elim
        | iol l =>
          obtain ⟨a', z1, _⟩ := z
          have := sg i _ z1
          rw [h] at this
          cases this
          exact ⟨l, e, z1⟩
      · cases o
    obtain ⟨l, i1, i2⟩ := one e1 o1 h1
    obtain ⟨l', j1, j2⟩ := one e2 o2 h2
    exact A.apart i j a l l' i1 j1 i2 j2
  · obtain ⟨l, e1, e2⟩ := (cio i a).mp e
    refine ⟨l, ?_⟩
    rw [List.getElem?_append_left (List.getElem?_eq_some_iff.mp e1).1]
    exact e1
  · -- the ends
    have aft : ∀ {ρ' : Rho} {σ' : L2.St} {H' F' : Hp}, Ext (fun b => if IoAt vs args b then none else H b) F F' → Ok ⟨K, fun i => match args[i]? with | some (SV.iol _) => (match vs[i]? with | some (V.ref a) => some a | _ => none) | _ => none, fun cls d _ H' => E cls d H', cls⟩ (fun b => if IoAt vs args b then none else H b) ρ' σ' H' F' → After K H F vs args ρ' H' F' := fun {ρ' σ' H' F'} e k => by
      have ios : ∀ (i : Nat) (l : Box) (a : Addr), args[i]? = some (SV.iol l) → vs[i]? = some (V.ref a) → ∃ (l' : Box) (us : HO), ρ'[i]? = some (SV.iol l') ∧ H' a = some us ∧ BoxIs K F' us l' ∧ F' a = none := fun i l a e1 e2 => by
        obtain ⟨l', q⟩ := k.ioc i a ((cio i a).mpr ⟨l, e1, e2⟩)
        obtain ⟨a', z1, z2, z3, z4, us, z5, z6⟩ := k.slot i _ q
        have z2 := (cio i a').mp z2
        obtain ⟨_, _, z2⟩ := z2
        rw [e2] at z2; cases z2
        exact ⟨l', us, q, z5, z6, z3⟩
      refine ⟨e.le, k.fh, fun b o q => ?_, fun b o q hn => k.gh b o (by simp only [if_neg hn]; exact q), fun i l a e1 e2 => ?_⟩
      · rcases e.new b o q with z | z
        · exact .inl z
        · by_cases zi : IoAt vs args b
          · obtain ⟨i, l, e1, e2⟩ := zi
            obtain ⟨_, _, _, _, _, z3⟩ := ios i l b e1 e2
            rw [z3] at q; cases q
          · simp only [if_neg zi] at z; exact .inr z
      · obtain ⟨l', us, q1, q2, q3, _⟩ := ios i l a e1 e2
        exact ⟨l', us, q1, q2, q3⟩
    cases q : mb (args ++ List.replicate (N.length - ps.length) .no) with
    | bad => rw [q] at post; exact post.elim
    | bk ρ' => rw [q] at post; exact post.elim
    | ct ρ' => rw [q] at post; exact post.elim
    | rt d ρ' => rw [q] at post; exact fun v σ' H' F' e k rv => post v H' F' (aft e k) rv
    | nx ρ' => rw [q] at post; exact fun σ' H' F' e k => post H' F' (aft e k)
    | exc x ρ' => rw [q] at post; exact fun σ' H' F' e k => post H' F' (aft e k)
end VL

set_option Elab.async false
set_option linter.all false
set_option autoImplicit false
set_option maxRecDepth 100000
namespace VL
open PySem PySem.Spec PyProof.Rows L2 RZ

section
variable {X : Cx} {c : Vx} {G : Hp} {ρ : Rho} {σ : L2.St} {H F F1 : Hp}
variable {a b e : Expr} {es rest : List Expr} {p pos : Pos} {m n : M R} {st : Stmt}

/-! ### calls -/
theorem ve_call {k : Nat} {fa : Addr} {fd : FuncData} {ps : List Str} {f : Fn} {x : Str} {ms : M (List R)} (hK : X.K = c.K) (tk : Takes X c.W)
    (Fo : FnOk X.prog X.w X.K X.mg X.base (L2.CX X.prog X.w) k fa fd ps (spM c.K c.cls f ps.length)) (hr : Room k X.A) (hg : Gl X x) (hm : X.mg x = some (.ref fa)) (hk : PySem.W.keepIn X.K (.ref fa) = true) (hb : Binds X.K fd ps [])
    (ha : PA X (e :: es) (tA c ms)) (hdb : (x == ("__debug__" : Str)) = false := by decide) (he : starEach (e :: es) X.env = (false, eval e X.env) :: starEach es X.env := by rfl) (hpl : (backTo pos (starEach es X.env)).any (·.1) = false := by rfl) :
    PE X (.Call (.Name x p) (e :: es) [] pos) (tM c (mCall f ps.length ms)) :=
  pe_weak (pe_callS Fo hr hg hm hk hb (fun σ => passAt tk σ) ha hdb he hpl) fun σ H Q h => by
    obtain ⟨ρ, F, G, k, h⟩ := many_of h
    exact ⟨ρ, F, G, k, h.imp fun xs H1 ⟨ρ1, F1, G1, rs, k1, r1, h1⟩ => call_end k1 r1 h1⟩
theorem ve_call0 {k : Nat} {fa : Addr} {fd : FuncData} {f : Fn} {x : Str} (hK : X.K = c.K) (tk : Takes X c.W)
    (Fo : FnOk X.prog X.w X.K X.mg X.base (L2.CX X.prog X.w) k fa fd [] (spM c.K c.cls f 0)) (hr : Room k X.A) (hg : Gl X x) (hm : X.mg x = some (.ref fa)) (hk : PySem.W.keepIn X.K (.ref fa) = true) (hb : Binds X.K fd [] [])
    (hdb : (x == ("__debug__" : Str)) = false := by decide) : PE X (.Call (.Name x p) [] [] pos) (tM c (mCall f 0 mNil)) := by
  refine ⟨fun pins s σ H Q I h => ?_⟩
  refine wpAny_Call_Name_kw (ld_glob I hg hm ?_ hdb)
  obtain ⟨ρ, F, G, k1, h⟩ := h
  have h1 : Wn c G σ F (RepR c σ) Q (callD f 0 [] ρ) := h
  exact PySem.W.callWith_K0 I.kIn hk (run_fnS (us := []) (vs := []) Fo hr hb (passAt tk σ) I .nil (call_end (rs := []) (xs := []) k1 trivial h1))

/-! ### comprehensions -/
theorem vn_lc {own : List (Str × Nat)} {is : List Nat} {tg iter : Expr} {ifs : List Expr} {scope : Scope} {mi : M (List D)} {t : Tgt} {mt : M Bool} {me : M R} {elt : Expr} (hc : X.calm = true) (hN : X.N.Nodup) (hi : PI X tg iter (tI c mi)) (ok : BlkOk X.N X.env.scope scope own)
    (hg : ∀ (s : Shared) (H : Hp) (C : Addr) (cl : List (Str × Addr)) (fp : List Addr), PG (X.blk s H scope (compEnvC scope cl C X.env) fp) tg (tG c.blk t is)) (ht : ∀ (s : Shared) (H : Hp) (C : Addr) (cl : List (Str × Addr)) (fp : List Addr), PTs (X.blk s H scope (compEnvC scope cl C X.env) fp) ifs (tT c.blk mt))
    (he : ∀ (s : Shared) (H : Hp) (C : Addr) (cl : List (Str × Addr)) (fp : List Addr), PE (X.blk s H scope (compEnvC scope cl C X.env) fp) elt (tM c.blk me)) (his : ∀ j ∈ is, j ∈ own.map (·.2)) (hs : ∀ x, foldedSetIterable iter X.env x = pure x := by intro _; rfl) :
    PE X (.ListComp elt [⟨tg, iter, ifs, 0⟩] scope pos) (tN c (mLc (own.map (·.2)) mi t mt me)) :=
  pe_weak (pe_lc hc hN hi ok hg ht (fun s H C cl fp => ve_frz (he s H C cl fp)) hs) fun σ H Q h => lc_of his h
/-- y = [..] on one line -/
theorem vs_setLc {i : Nat} {y : Str} {py spos : Pos} {own : List (Str × Nat)} {is : List Nat} {tg iter : Expr} {ifs : List Expr} {scope : Scope} {mi : M (List D)} {t : Tgt} {mt : M Bool} {me : M R} {elt : Expr} (hc : X.calm = true) (hN : X.N.Nodup) (hy : X.N[i]? = some y) (hyl : X.env.scope.names.lookup y = some .local)
    (hsw : swapsWith (.ListComp elt [⟨tg, iter, ifs, 0⟩] scope pos) (some (.Name y py)) spos.line X.env = pure true) (hi : PI X tg iter (tI c mi)) (ok : BlkOk X.N X.env.scope scope own)
    (hg : ∀ (s : Shared) (H : Hp) (C : Addr) (cl : List (Str × Addr)) (fp : List Addr), PG (X.blk s H scope (compEnvC scope cl C X.env) fp) tg (tG c.blk t is)) (ht : ∀ (s : Shared) (H : Hp) (C : Addr) (cl : List (Str × Addr)) (fp : List Addr), PTs (X.blk s H scope (compEnvC scope cl C X.env) fp) ifs (tT c.blk mt))
    (he : ∀ (s : Shared) (H : Hp) (C : Addr) (cl : List (Str × Addr)) (fp : List Addr), PE (X.blk s H scope (compEnvC scope cl C X.env) fp) elt (tM c.blk me)) (his : ∀ j ∈ is, j ∈ own.map (·.2)) (hs : ∀ x, foldedSetIterable iter X.env x = pure x := by intro _; rfl) :
    PS X (.Assign [.Name y py] (.ListComp elt [⟨tg, iter, ifs, 0⟩] scope pos) spos) (tAsg (tN c (mLc (own.map (·.2)) mi t mt me)) (gName i)) :=
  tAsg_weak (ps_setLc hc hN hy hyl hsw hi ok hg ht (fun s H C cl fp => ve_frz (he s H C cl fp)) hs) fun σ H Q h => lc_of his h
def mYes : M Bool := mPure true
theorem vts_nil : PTs X [] (tT c mYes) := ⟨fun pins s σ H Q I ⟨ρ, F, G, k, h⟩ => pts_nil.run pins s σ H Q I (h true H F (Ext.refl G F) k rfl)⟩
theorem vts_one {mt : M Bool} (h : PT X e (tT c mt)) : PTs X [e] (tT c mt) := pts_one h
/-- a new list stored as a datum -/
theorem newD {mn : M (List D)} : ∀ σ H Q, tD c (mFrz (mNew mn)) σ H Q → tN c mn σ H Q := fun σ H Q ⟨ρ, F, G, k, h⟩ => by
  refine ⟨ρ, F, G, k, ?_⟩
  unfold mFrz mNew mBind at h
  cases q : mn ρ with
  | bad => simp only [q] at h; exact h
  | exc x ρ' => simp only [q] at h; exact h
  | ok l ρ' =>
    simp only [q] at h
    intro p vs H' F' e k' hp rv
    have gr := Grow.new1 (o := .lst vs) k'.fh hp
    exact h _ _ _ (e.trans (gr.ext k'.gh)) (k'.grow gr) (.lst upd_same (RpAll.le gr.ff rv))

/-! ### what is walked -/
theorem pi_weak {tg iter : Expr} {wi wi' : TI} (h : PI X tg iter wi) (w : ∀ σ H R, wi' σ H R → wi σ H R) : PI X tg iter wi' := ⟨fun pins s σ H R I q => h.run pins s σ H R I (w σ H R q)⟩
def mIt (g : D → Option (List D)) (m : M R) : M (List D) := mBind (mFrz m) fun d ρ => match g d with
  | some l => .ok l ρ
  | none => .bad
def mItN (g : List D → Option (List D)) (ms : M (List R)) : M (List D) := mBind (mFrzs ms) fun ds ρ => match g ds with
  | some l => .ok l ρ
  | none => .bad
theorem it_of {g : D → Option (List D)} {R : It → Hp → Prop} (h : tI c (mIt g m) σ H R) :
    tD c (mFrz m) σ H fun x H1 => ∃ F d l, HLe F H1 ∧ Rp c.K F x d ∧ g d = some l ∧ ∀ J, Walk c.K F l J → R J H1 := by
  obtain ⟨ρ, F, G, k, h⟩ := h
  refine ⟨ρ, F, G, k, ?_⟩
  unfold mIt mBind at h
  cases q : mFrz m ρ with
  | bad => simp only [q] at h
  | exc x ρ' => simp only [q] at h; exact h
  | ok d ρ' =>
    simp only [q] at h
    intro x H1 F1 e k1 r
    cases q2 : g d with
    | none => simp only [q2] at h
    | some l => simp only [q2] at h; exact ⟨F1, d, l, k1.fh, r, q2, fun J w => h J H1 F1 e k1 w⟩
theorem itN_of {g : List D → Option (List D)} {ms : M (List R)} {R : It → Hp → Prop} (h : tI c (mItN g ms) σ H R) :
    tDs c (mFrzs ms) σ H fun xs H1 => ∃ F ds l, HLe F H1 ∧ RpAll c.K F xs ds ∧ g ds = some l ∧ ∀ J, Walk c.K F l J → R J H1 := by
  obtain ⟨ρ, F, G, k, h⟩ := h
  refine ⟨ρ, F, G, k, ?_⟩
  unfold mItN mBind at h
  cases q : mFrzs ms ρ with
  | bad => simp only [q] at h
  | exc x ρ' => simp only [q] at h; exact h
  | ok d ρ' =>
    simp only [q] at h
    intro x H1 F1 e k1 r
    cases q2 : g d with
    | none => simp only [q2] at h
    | some l => simp only [q2] at h; exact ⟨F1, d, l, k1.fh, r, q2, fun J w => h J H1 F1 e k1 w⟩
theorem at_rp {K : PySem.W.Frag} {F F' : Hp} {vs : List V} {ds : List D} {i : Nat} {d : D} (r : RpAll K F vs ds) (le : HLe F F') (h : ds[i]? = some d) : ∃ v, vs[i]? = some v ∧ Rp K F' v d := by
  obtain ⟨v, h1, h2⟩ := r.get h
  exact ⟨v, h1, h2.le le⟩
theorem walk_list {K : PySem.W.Frag} {F : Hp} {a : Addr} {vs : List V} {ds : List D} (h : F a = some (.lst vs)) (r : RpAll K F vs ds) : Walk K F ds (Itl K a) := fun i H F' le fh => by
  have hs : SqL K H a vs := SqL.of (fh _ _ (le _ _ h))
  refine ⟨fun d hd => ?_, fun hi => ⟨vs, hs, by rw [r.length]; exact hi⟩⟩
  obtain ⟨v, h1, h2⟩ := at_rp r le hd
  refine ⟨⟨vs, v, hs, h1⟩, fun x H' ⟨e, y⟩ => ?_⟩
  subst e
  have := y vs hs
  rw [h1] at this; cases this
  exact ⟨F', Grow.refl fh, h2⟩
theorem walk_tup {K : PySem.W.Frag} {F : Hp} {a : Addr} {vs : List V} {ds : List D} (h : SqT K F a vs) (r : RpAll K F vs ds) : Walk K F ds (Itt K a) := fun i H F' le fh => by
  have hs : SqT K H a vs := SqT.le fh (SqT.le le h)
  refine ⟨fun d hd => ?_, fun hi => ⟨vs, hs, by rw [r.length]; exact hi⟩⟩
  obtain ⟨v, h1, h2⟩ := at_rp r le hd
  refine ⟨⟨vs, v, hs, h1⟩, fun x H' ⟨e, y⟩ => ?_⟩
  subst e
  have := y vs hs
  rw [h1] at this; cases this
  exact ⟨F', Grow.refl fh, h2⟩
def itL : D → Option (List D)
  | .list l => some l
  | _ => none
def itT : D → Option (List D)
  | .tuple l => some l
  | _ => none
/-- a text's signs -/
def signs (x : Str) : List D := x.cps.toList.map fun n => .str ⟨#[n]⟩
def itS : D → Option (List D)
  | .str x => some (signs x)
  | _ => none
theorem vi_list {tg : Expr} (hK : X.K = c.K) (h : PE X e (tM c m)) : PI X tg e (tI c (mIt itL m)) :=
  pi_weak (pi_list (ve_frz h)) fun σ H R h => by
    obtain ⟨ρ, F, G, k, h⟩ := it_of h
    refine ⟨ρ, F, G, k, h.imp fun x H1 ⟨F, d, l, fh, r, g, f⟩ => ?_⟩
    cases d with
    | list ds =>
      cases g
      cases r with
      | lst q rr => rw [hK]; exact ⟨_, rfl, ⟨_, SqL.of (fh _ _ q)⟩, f _ (walk_list q rr)⟩
    | _ => cases g
theorem vi_tup {tg : Expr} (hK : X.K = c.K) (h : PE X e (tM c m)) : PI X tg e (tI c (mIt itT m)) :=
  pi_weak (pi_tup (ve_frz h)) fun σ H R h => by
    obtain ⟨ρ, F, G, k, h⟩ := it_of h
    refine ⟨ρ, F, G, k, h.imp fun x H1 ⟨F, d, l, fh, r, g, f⟩ => ?_⟩
    cases d with
    | tuple ds =>
      cases g
      cases r with
      | tup q rr => rw [hK]; exact ⟨_, rfl, ⟨_, SqT.le fh q⟩, f _ (walk_tup q rr)⟩
    | _ => cases g
/-- a list or a tuple -/
def itQ : D → Option (List D)
  | .list l => some l
  | .tuple l => some l
  | .str x => some (signs x)
  | _ => none
def iSeq (K : PySem.W.Frag) (te : TE) : TI := fun σ H R => te σ H fun x H1 => (∃ a, x = .ref a ∧ (∃ xs, SqL K H1 a xs) ∧ R (Itl K a) H1) ∨ (∃ a, x = .ref a ∧ (∃ xs, SqT K H1 a xs) ∧ R (Itt K a) H1) ∨ ∃ y, x = .str y ∧ R (Its y) H1
theorem pi_seq {tg : Expr} {te : TE} (h : PE X e te) : PI X tg e (iSeq X.K te) := by
  refine ⟨fun pins s σ H R I q => ?_⟩
  refine thn (h.run pins s σ H _ I q) fun v s1 ⟨x, H1, I1, r1, q1⟩ => ?_
  rcases q1 with ⟨a, rfl, ⟨xs, hq⟩, q⟩ | ⟨a, rfl, ⟨xs, hq⟩, q⟩ | ⟨y, rfl, q⟩
  · cases r1
    obtain ⟨its, rv, p, hz⟩ := I1.list hq
    refine wpAny_pyIter_list p.isList ?_
    refine ⟨s1.heap.objs.size, [s1.heap.objs.size], _, _, H1, rfl, I1.kept (t' := s1.toks) fun b o e => Heap.get?_push_of_some _ e, turn_list a _, ⟨_, Heap.get?_push_size _ rfl, rfl, rfl⟩, fun b hb => ?_, q⟩
    have e : b = s1.heap.objs.size := by simpa using hb
    subst e
    exact I1.fpOk (Nat.le_refl _) (I1.hok.fresh (Nat.le_refl _))
  · cases r1
    obtain ⟨its, rv, p, hz⟩ := I1.tuple hq
    refine wpAny_pyIter_tuple (show s1.heap.IsTuple a its.toArray from p) ?_
    refine ⟨s1.heap.objs.size, [s1.heap.objs.size], _, _, H1, rfl, I1.kept (t' := s1.toks) fun b o e => Heap.get?_push_of_some _ e, turn_tuple a _, ⟨_, Heap.get?_push_size _ rfl, rfl, rfl⟩, fun b hb => ?_, q⟩
    have e : b = s1.heap.objs.size := by simpa using hb
    subst e
    exact I1.fpOk (Nat.le_refl _) (I1.hok.fresh (Nat.le_refl _))
  · obtain ⟨t, rfl⟩ := r1
    cases ha : y.cps.all (· < 128)
    · exact wpAny_pyIter_wide ha (pi_one (tk := s1.toks) I1 _ (turn_str _ y t "str_iterator" (.inr rfl)) ⟨_, Heap.get?_push_size _ rfl, rfl, rfl⟩ q)
    · exact wpAny_pyIter_ascii ha (pi_one (tk := s1.toks) I1 _ (turn_str _ y t "str_ascii_iterator" (.inl rfl)) ⟨_, Heap.get?_push_size _ rfl, rfl, rfl⟩ q)
theorem walk_str {K : PySem.W.Frag} {F : Hp} {y : Str} : Walk K F (signs y) (Its y) := fun i H F' le fh => by
  have hl : (signs y).length = y.cps.size := by unfold signs; simp
  refine ⟨fun d hd => ?_, fun hi => by show y.cps.size ≤ i; omega⟩
  have hi : i < y.cps.size := by rw [← hl]; exact (List.getElem?_eq_some_iff.mp hd).1
  refine ⟨hi, fun x H' ⟨e, k, hk, ex⟩ => ?_⟩
  subst e ex
  refine ⟨F', Grow.refl fh, ?_⟩
  unfold signs at hd
  rw [List.getElem?_map, Array.getElem?_toList, hk] at hd
  cases hd
  exact .str _
theorem vi_seq {tg : Expr} (hK : X.K = c.K) (h : PE X e (tM c m)) : PI X tg e (tI c (mIt itQ m)) :=
  pi_weak (pi_seq (ve_frz h)) fun σ H R h => by
    obtain ⟨ρ, F, G, k, h⟩ := it_of h
    refine ⟨ρ, F, G, k, h.imp fun x H1 ⟨F, d, l, fh, r, g, f⟩ => ?_⟩
    rw [hK]
    cases d with
    | list ds =>
      cases g
      cases r with
      | lst q rr => exact .inl ⟨_, rfl, ⟨_, SqL.of (fh _ _ q)⟩, f _ (walk_list q rr)⟩
    | tuple ds =>
      cases g
      cases r with
      | tup q rr => exact .inr (.inl ⟨_, rfl, ⟨_, SqT.le fh q⟩, f _ (walk_tup q rr)⟩)
    | str y =>
      cases g
      cases r
      exact .inr (.inr ⟨y, rfl, f _ walk_str⟩)
    | _ => cases g
/-- lo, lo + 1, .. -/
def rangeD (lo : Int) (n : Nat) : List D := (List.range n).map fun i => .int (lo + (i : Nat))
theorem walk_range {K : PySem.W.Frag} {F : Hp} {lo : Int} {n : Nat} : Walk K F (rangeD lo n) (Itr lo n) := fun i H F' le fh => by
  have hl : (rangeD lo n).length = n := by unfold rangeD; simp
  refine ⟨fun d hd => ?_, fun hi => by show n ≤ i; omega⟩
  have hi : i < n := by rw [← hl]; exact (List.getElem?_eq_some_iff.mp hd).1
  refine ⟨hi, fun x H' ⟨e, ex⟩ => ?_⟩
  subst e ex
  refine ⟨F', Grow.refl fh, ?_⟩
  unfold rangeD at hd
  rw [List.getElem?_map, List.getElem?_range hi] at hd
  cases hd
  exact .int _
def rgOk (i : Int) : Bool := decide (i.natAbs < 4611686018427387904)
theorem rgOk_is {i : Int} (h : rgOk i = true) : -(2 ^ 62) ≤ i ∧ i < 2 ^ 62 := by
  unfold rgOk at h
  have h := of_decide_eq_true h
  omega
def itR1 : List D → Option (List D)
  | [.int n] => if rgOk n = true then some (rangeD 0 n.toNat) else none
  | _ => none
def itR2 : List D → Option (List D)
  | [.int i, .int j] => if (rgOk i && rgOk j) = true then some (rangeD i (j - i).toNat) else none
  | _ => none
theorem vi_range1 {tg : Expr} {ms : M (List R)} (hg : Gl X "range") (hm : X.mg "range" = none) (ha : PA X [a] (tA c ms)) (hs : starEach [a] X.env = [(false, eval a X.env)] := by rfl) : PI X tg (.Call (.Name "range" p) [a] [] pos) (tI c (mItN itR1 ms)) :=
  pi_weak (pi_range1 hg hm (va_frz ha) hs) fun σ H R h => by
    obtain ⟨ρ, F, G, k, h⟩ := itN_of h
    refine ⟨ρ, F, G, k, h.imp fun xs H1 ⟨F, ds, l, fh, r, g, f⟩ => ?_⟩
    unfold itR1 at g
    split at g
    · rename_i n
      split at g
      · rename_i hn
        cases g
        cases r with
        | cons r1 rr =>
          cases rr
          cases r1
          obtain ⟨h1, h2⟩ := rgOk_is hn
          exact ⟨n, rfl, h1, h2, f _ walk_range⟩
      · cases g
    · cases g
theorem vi_range2 {tg : Expr} {ms : M (List R)} (hg : Gl X "range") (hm : X.mg "range" = none) (ha : PA X [a, b] (tA c ms)) (hs : starEach [a, b] X.env = [(false, eval a X.env), (false, eval b X.env)] := by rfl) (hs2 : starEach [b] X.env = [(false, eval b X.env)] := by rfl) : PI X tg (.Call (.Name "range" p) [a, b] [] pos) (tI c (mItN itR2 ms)) :=
  pi_weak (pi_range2 hg hm (va_frz ha) hs hs2) fun σ H R h => by
    obtain ⟨ρ, F, G, k, h⟩ := itN_of h
    refine ⟨ρ, F, G, k, h.imp fun xs H1 ⟨F, ds, l, fh, r, g, f⟩ => ?_⟩
    unfold itR2 at g
    split at g
    · rename_i i j
      split at g
      · rename_i hn
        cases g
        cases r with
        | cons r1 rr =>
          cases rr with
          | cons r2 rr =>
            cases rr
            cases r1
            cases r2
            obtain ⟨h1, h2⟩ := Bool.and_eq_true_iff.mp hn
            obtain ⟨h3, h4⟩ := rgOk_is h1
            obtain ⟨h5, h6⟩ := rgOk_is h2
            exact ⟨i, j, rfl, ⟨h3, h4, h5, h6⟩, f _ walk_range⟩
      · cases g
    · cases g
/-- pairs -/
def zipD : List D → List D → List D
  | x :: xs, y :: ys => .tuple [x, y] :: zipD xs ys
  | _, _ => []
theorem zipD_length : ∀ xs ys : List D, (zipD xs ys).length = min xs.length ys.length
  | [], ys => by cases ys <;> simp [zipD]
  | x :: xs, [] => by simp [zipD]
  | x :: xs, y :: ys => by simp [zipD, zipD_length xs ys, Nat.succ_min_succ]
theorem zipD_at : ∀ {xs ys : List D} {i : Nat} {d : D}, (zipD xs ys)[i]? = some d → ∃ x y, xs[i]? = some x ∧ ys[i]? = some y ∧ d = .tuple [x, y]
  | [], ys, i, d, h => by cases ys <;> simp [zipD] at h
  | x :: xs, [], i, d, h => by simp [zipD] at h
  | x :: xs, y :: ys, 0, d, h => by simp [zipD] at h; exact ⟨x, y, rfl, rfl, h.symm⟩
  | x :: xs, y :: ys, i + 1, d, h => by
    obtain ⟨x', y', h1, h2, h3⟩ := zipD_at (xs := xs) (ys := ys) (i := i) (by simpa [zipD] using h)
    exact ⟨x', y', by simpa using h1, by simpa using h2, h3⟩
theorem pair_new {K : PySem.W.Frag} {F H : Hp} {T : Addr} {x y : V} {d e : D} (fh : HLe F H) (hT : H T = none) (rx : Rp K F x d) (ry : Rp K F y e) : ∃ F'', Grow H F (upd H T (.tup [x, y])) F'' ∧ Rp K F'' (.ref T) (.tuple [d, e]) := by
  have gr := Grow.new1 (o := .tup [x, y]) fh hT
  exact ⟨_, gr, .tup (SqT.of upd_same) (.cons (rx.le gr.ff) (.cons (ry.le gr.ff) .nil))⟩
theorem walk_zipL {K : PySem.W.Frag} {F : Hp} {a b : Addr} {vs ws : List V} {ds es : List D} (h : F a = some (.lst vs)) (r : RpAll K F vs ds) (h' : F b = some (.lst ws)) (r' : RpAll K F ws es) : Walk K F (zipD ds es) (Itz K a b) := fun i H F' le fh => by
  have hs : SqL K H a vs := SqL.of (fh _ _ (le _ _ h))
  have hs' : SqL K H b ws := SqL.of (fh _ _ (le _ _ h'))
  refine ⟨fun d hd => ?_, fun hi => ⟨vs, ws, hs, hs', by rw [r.length, r'.length]; rw [zipD_length] at hi; omega⟩⟩
  obtain ⟨d1, d2, e1, e2, rfl⟩ := zipD_at hd
  obtain ⟨v, h1, h2⟩ := at_rp r le e1
  obtain ⟨w, h3, h4⟩ := at_rp r' le e2
  refine ⟨⟨vs, ws, v, w, hs, hs', h1, h3⟩, fun x H' ⟨T, x1, y1, ex, hT, eH, y, y'⟩ => ?_⟩
  subst ex eH
  have q := y vs hs
  rw [h1] at q; cases q
  have q := y' ws hs'
  rw [h3] at q; cases q
  exact pair_new fh hT h2 h4
theorem walk_zipT {K : PySem.W.Frag} {F : Hp} {a b : Addr} {vs ws : List V} {ds es : List D} (h : SqT K F a vs) (r : RpAll K F vs ds) (h' : SqT K F b ws) (r' : RpAll K F ws es) : Walk K F (zipD ds es) (ItzT K a b) := fun i H F' le fh => by
  have hs : SqT K H a vs := SqT.le fh (SqT.le le h)
  have hs' : SqT K H b ws := SqT.le fh (SqT.le le h')
  refine ⟨fun d hd => ?_, fun hi => ⟨vs, ws, hs, hs', by rw [r.length, r'.length]; rw [zipD_length] at hi; omega⟩⟩
  obtain ⟨d1, d2, e1, e2, rfl⟩ := zipD_at hd
  obtain ⟨v, h1, h2⟩ := at_rp r le e1
  obtain ⟨w, h3, h4⟩ := at_rp r' le e2
  refine ⟨⟨vs, ws, v, w, hs, hs', h1, h3⟩, fun x H' ⟨T, x1, y1, ex, hT, eH, y, y'⟩ => ?_⟩
  subst ex eH
  have q := y vs hs
  rw [h1] at q; cases q
  have q := y' ws hs'
  rw [h3] at q; cases q
  exact pair_new fh hT h2 h4
def itZ : List D → Option (List D)
  | [.list l, .list k] => some (zipD l k)
  | [.tuple l, .tuple k] => some (zipD l k)
  | _ => none
theorem vi_zip {tpos : Pos} {elts : List Expr} {kk : Nat} {ms : M (List R)} (hK : X.K = c.K) (hg : Gl X "zip") (hm : X.mg "zip" = none) (ha : PA X [a, b] (tA c ms))
    (hs : starEach [a, b] X.env = (false, eval a X.env) :: starEach [b] X.env := by rfl) (hpl : (backTo pos (starEach [b] X.env)).any (·.1) = false := by rfl) :
    PI X (.Tuple elts kk tpos) (.Call (.Name "zip" p) [a, b] [] pos) (tI c (mItN itZ ms)) :=
  pi_weak (pi_zipA hg hm (va_frz ha) hs hpl) fun σ H R h => by
    obtain ⟨ρ, F, G, k, h⟩ := itN_of h
    refine ⟨ρ, F, G, k, h.imp fun xs H1 ⟨F, ds, l, fh, r, g, f⟩ => ?_⟩
    rw [hK]
    unfold itZ at g
    split at g
    · cases g
      cases r with
      | cons r1 rr =>
        cases rr with
        | cons r2 rr =>
          cases rr
          cases r1 with
          | lst q1 s1 =>
            cases r2 with
            | lst q2 s2 => exact ⟨_, _, _, _, rfl, .inl ⟨SqL.of (fh _ _ q1), SqL.of (fh _ _ q2), f _ (walk_zipL q1 s1 q2 s2)⟩⟩
    · cases g
      cases r with
      | cons r1 rr =>
        cases rr with
        | cons r2 rr =>
          cases rr
          cases r1 with
          | tup q1 s1 =>
            cases r2 with
            | tup q2 s2 => exact ⟨_, _, _, _, rfl, .inr ⟨SqT.le fh q1, SqT.le fh q2, f _ (walk_zipT q1 s1 q2 s2)⟩⟩
    · cases g
def enumD (i : Nat) : List D → List D
  | [] => []
  | x :: xs => .tuple [.int (i : Nat), x] :: enumD (i + 1) xs
theorem enumD_length : ∀ (i : Nat) (l : List D), (enumD i l).length = l.length
  | _, [] => rfl
  | i, x :: xs => by simp [enumD, enumD_length (i + 1) xs]
theorem enumD_at : ∀ {l : List D} {i j : Nat} {d : D}, (enumD j l)[i]? = some d → ∃ x, l[i]? = some x ∧ d = .tuple [.int ((j + i : Nat) : Int), x]
  | [], i, j, d, h => by simp [enumD] at h
  | x :: xs, 0, j, d, h => by simp [enumD] at h; exact ⟨x, rfl, h.symm⟩
  | x :: xs, i + 1, j, d, h => by
    obtain ⟨x', h1, h2⟩ := enumD_at (l := xs) (i := i) (j := j + 1) (by simpa [enumD] using h)
    exact ⟨x', by simpa using h1, by rw [h2]; congr 4; omega⟩
theorem walk_enumL {K : PySem.W.Frag} {F : Hp} {a : Addr} {vs : List V} {ds : List D} (h : F a = some (.lst vs)) (r : RpAll K F vs ds) : Walk K F (enumD 0 ds) (Ite K a) := fun i H F' le fh => by
  have hs : SqL K H a vs := SqL.of (fh _ _ (le _ _ h))
  refine ⟨fun d hd => ?_, fun hi => ⟨vs, hs, by rw [r.length]; rw [enumD_length] at hi; omega⟩⟩
  obtain ⟨d1, e1, rfl⟩ := enumD_at hd
  obtain ⟨v, h1, h2⟩ := at_rp r le e1
  refine ⟨⟨vs, v, hs, h1⟩, fun x H' ⟨T, x1, ex, hT, eH, y⟩ => ?_⟩
  subst ex eH
  have q := y vs hs
  rw [h1] at q; cases q
  rw [Nat.zero_add]
  exact pair_new fh hT (.int _) h2
def itE : List D → Option (List D)
  | [.list l] => some (enumD 0 l)
  | _ => none
theorem vi_enumL {tpos : Pos} {elts : List Expr} {kk : Nat} {ms : M (List R)} (hK : X.K = c.K) (hg : Gl X "enumerate") (hm : X.mg "enumerate" = none) (ha : PA X [a] (tA c ms)) (hs : starEach [a] X.env = [(false, eval a X.env)] := by rfl) :
    PI X (.Tuple elts kk tpos) (.Call (.Name "enumerate" p) [a] [] pos) (tI c (mItN itE ms)) :=
  pi_weak (pi_enum hg hm (va_frz ha) hs) fun σ H R h => by
    obtain ⟨ρ, F, G, k, h⟩ := itN_of h
    refine ⟨ρ, F, G, k, h.imp fun xs H1 ⟨F, ds, l, fh, r, g, f⟩ => ?_⟩
    rw [hK]
    unfold itE at g
    split at g
    · cases g
      cases r with
      | cons r1 rr =>
        cases rr
        cases r1 with
        | lst q1 s1 => exact ⟨_, _, rfl, SqL.of (fh _ _ q1), f _ (walk_enumL q1 s1)⟩
    · cases g
end
end VL

set_option Elab.async false
set_option linter.all false
set_option autoImplicit false
set_option maxRecDepth 100000
namespace VL
open PySem PySem.Spec PyProof.Rows L2

/-! ### ints -/
def gSub : D → D → Option D
  | .int i, .int j => some (.int (i - j))
  | _, _ => none
def gFdiv : D → D → Option D
  | .int i, .int j => if (decide (j ≠ 0) && decide (j.natAbs < 1073741824)) = true then some (.int (i.fdiv j)) else none
  | _, _ => none
def gMod : D → D → Option D
  | .int i, .int j => if decide (j ≠ 0) = true then some (.int (i.fmod j)) else none
  | _, _ => none
def gPow : D → D → Option D
  | .int i, .int j => if (decide (0 ≤ j) && decide (j.natAbs ≤ 1000000) && decide (i.natAbs < 18446744073709551616)) = true then some (.int (i ^ j.toNat)) else none
  | _, _ => none
def gNeg : D → Option D
  | .int i => some (.int (-i))
  | _ => none
def mulOk (i j : Int) : Bool := decide (i.natAbs < 18446744073709551616) || decide (j.natAbs < 18446744073709551616)
theorem mulOk_is {i j : Int} (h : mulOk i j = true) : ((-18446744073709551616 < i) ∧ (i < 18446744073709551616)) ∨ ((-18446744073709551616 < j) ∧ (j < 18446744073709551616)) := by
  unfold mulOk at h
  simp only [Bool.or_eq_true, decide_eq_true_eq] at h
  omega
section
variable {K : PySem.W.Frag} {X : Cx}
theorem sim_sub : Sim2 K (rI0 fun i j => .int (i - j)) gSub := by
  intro x y H F d e d' Q fh hx hy hg f
  unfold gSub at hg
  split at hg
  · rename_i i j
    cases hg
    cases (show Rp K F x (.int i) from hx)
    cases (show Rp K F y (.int j) from hy)
    exact ⟨i, j, rfl, rfl, f _ H F (Grow.refl fh) (.int _)⟩
  · cases hg
theorem sim_fdiv : Sim2 K (rI CDivN fun i j => .int (i.fdiv j)) gFdiv := by
  intro x y H F d e d' Q fh hx hy hg f
  unfold gFdiv at hg
  split at hg
  · rename_i i j
    split at hg
    · rename_i hc
      cases hg
      cases (show Rp K F x (.int i) from hx)
      cases (show Rp K F y (.int j) from hy)
      simp only [Bool.and_eq_true, decide_eq_true_eq] at hc
      exact ⟨i, j, rfl, rfl, hc, f _ H F (Grow.refl fh) (.int _)⟩
    · cases hg
  · cases hg
theorem sim_mod : Sim2 K (rI (fun _ j => j ≠ 0) fun i j => .int (i.fmod j)) gMod := by
  intro x y H F d e d' Q fh hx hy hg f
  unfold gMod at hg
  split at hg
  · rename_i i j
    split at hg
    · rename_i hc
      cases hg
      cases (show Rp K F x (.int i) from hx)
      cases (show Rp K F y (.int j) from hy)
      exact ⟨i, j, rfl, rfl, of_decide_eq_true hc, f _ H F (Grow.refl fh) (.int _)⟩
    · cases hg
  · cases hg
theorem sim_pow : Sim2 K (rI CPow fun i j => .int (i ^ j.toNat)) gPow := by
  intro x y H F d e d' Q fh hx hy hg f
  unfold gPow at hg
  split at hg
  · rename_i i j
    split at hg
    · rename_i hc
      cases hg
      cases (show Rp K F x (.int i) from hx)
      cases (show Rp K F y (.int j) from hy)
      simp only [Bool.and_eq_true, decide_eq_true_eq] at hc
      exact ⟨i, j, rfl, rfl, ⟨hc.1.1, by have := hc.1.2; omega, hc.2⟩, f _ H F (Grow.refl fh) (.int _)⟩
    · cases hg
  · cases hg
theorem sim_neg : Sim1 K (rU fun i => .int (-i)) gNeg := by
  intro x H F d d' Q fh hx hg f
  unfold gNeg at hg
  split at hg
  · rename_i i
    cases hg
    cases (show Rp K F x (.int i) from hx)
    exact ⟨i, rfl, f _ H F (Grow.refl fh) (.int _)⟩
  · cases hg

/-! ### + and * -/
def gAdd : D → D → Option D
  | .int i, .int j => some (.int (i + j))
  | .str x, .str y => if decide (x.length + y.length ≤ 16777216) = true then some (.str (x ++ y)) else none
  | .tuple l, .tuple k => if decide (l.length + k.length ≤ 16777216) = true then some (.tuple (l ++ k)) else none
  | .list l, .list k => if decide (l.length + k.length ≤ 16777216) = true then some (.list (l ++ k)) else none
  | _, _ => none
def rAddV (K : PySem.W.Frag) : R2 := fun x y H Q => (rI0 fun i j => .int (i + j)) x y H Q ∨ ((fun x y H Q => ∃ i j, x = .str i ∧ y = .str j ∧ i.length + j.length ≤ sizeLine ∧ Q (.str (i ++ j)) H : R2) x y H Q ∨ (rCatA K x y H Q ∨ rCat x y H Q))
theorem op_addV : OpR X (binaryOp .Add) (rAddV X.K) := op_add.or (op_add_str.or (op_catA.or op_cat))
theorem sim_add : Sim2 K (rAddV K) gAdd := by
  intro x y H F d e d' Q fh hx hy hg f
  unfold gAdd at hg
  split at hg
  · rename_i i j
    cases hg
    cases (show Rp K F x (.int i) from hx)
    cases (show Rp K F y (.int j) from hy)
    exact .inl ⟨i, j, rfl, rfl, f _ H F (Grow.refl fh) (.int _)⟩
  · rename_i i j
    split at hg
    · rename_i hc
      cases hg
      cases (show Rp K F x (.str i) from hx)
      cases (show Rp K F y (.str j) from hy)
      exact .inr (.inl ⟨i, j, rfl, rfl, by rw [sizeLine_eq]; exact of_decide_eq_true hc, f _ H F (Grow.refl fh) (.str _)⟩)
    · cases hg
  · rename_i l k
    split at hg
    · rename_i hc
      cases hg
      cases (show Rp K F x (.tuple l) from hx) with
      | @tup a vs _ q r =>
        cases (show Rp K F y (.tuple k) from hy) with
        | @tup b ws _ q' r' =>
          have hlen : vs.length + ws.length ≤ sizeLine := by rw [r.length, r'.length, sizeLine_eq]; exact of_decide_eq_true hc
          have el : vs = [] → l ++ k = k := fun e => by subst e; cases r; rfl
          have er : ws = [] → l ++ k = l := fun e => by subst e; cases r'; simp
          refine .inr (.inr (.inl ⟨a, b, vs, ws, rfl, rfl, SqT.le fh q, SqT.le fh q', hlen, fun e => ?_, fun _ e => ?_, fun _ _ p hp => ?_⟩))
          · exact f _ H F (Grow.refl fh) (by rw [el e]; exact .tup q' r')
          · exact f _ H F (Grow.refl fh) (by rw [er e]; exact .tup q r)
          · have gr := Grow.new1 (o := .tup (vs ++ ws)) fh hp
            exact f _ _ _ gr (.tup (SqT.of upd_same) (RpAll.le gr.ff (r.append r')))
    · cases hg
  · rename_i l k
    split at hg
    · rename_i hc
      cases hg
      obtain ⟨a, vs, rfl, q, r⟩ := (show ∃ a vs, x = .ref a ∧ H a = some (.lst vs) ∧ RpAll K F vs l from hx)
      obtain ⟨b, ws, rfl, q', r'⟩ := (show ∃ a vs, y = .ref a ∧ H a = some (.lst vs) ∧ RpAll K F vs k from hy)
      refine .inr (.inr (.inr ⟨a, b, vs, ws, rfl, rfl, q, q', by rw [r.length, r'.length, sizeLine_eq]; exact of_decide_eq_true hc, fun p hp => ?_⟩))
      have gr := Grow.new1 (o := .lst (vs ++ ws)) fh hp
      exact f _ _ _ gr (.lst upd_same (RpAll.le gr.ff (r.append r')))
    · cases hg
  · cases hg

/-! ### equality, order -/
mutual
theorem Rp.dp {F H : Hp} (le : HLe F H) : ∀ {d : D} {v : V}, Rp K F v d → d.canLay0 = true → Dp K H v d
  | .none, _, .non, _ => .non
  | .bool b, _, .bl _, _ => .bl b
  | .int i, _, .int _, _ => .int i
  | .str x, _, .str _, _ => .str x
  | .list ds, _, .lst h r, e => .lst (SqL.of (le _ _ h)) (RpAll.dp le r (by simpa [PyData.canLay0] using e))
  | .tuple ds, _, .tup h r, e => .tup (SqT.le le h) (RpAll.dp le r (by simpa [PyData.canLay0] using e))
  | .dict ds, _, _, e => by simp [PyData.canLay0] at e
theorem RpAll.dp {F H : Hp} (le : HLe F H) : ∀ {ds : List D} {vs : List V}, RpAll K F vs ds → PyData.canLayAll0 ds = true → DpAll K H vs ds
  | [], _, .nil, _ => .nil
  | d :: ds, _, .cons h r, e => by
    rw [PyData.canLayAll0, Bool.and_eq_true] at e
    exact .cons (Rp.dp le h e.1) (RpAll.dp le r e.2)
end
theorem Dq.dp {F H : Hp} {x : V} {d : D} (fh : HLe F H) (h : Dq K H F x d) (e : d.canLay0 = true) : Dp K H x d := Rp.dp (HLe.refl H) (h.rp fh fun es z => by subst z; simp [PyData.canLay0] at e) e
def gEq (d e : D) : Option D := if (SeqAt.shaped d && SeqAt.shaped e) = true then some (.bool (PyData.eqv d e)) else none
def gNe (d e : D) : Option D := if (SeqAt.shaped d && SeqAt.shaped e) = true then some (.bool (!PyData.eqv d e)) else none
theorem sim_eq : Sim2 K (rEqD K) gEq := by
  intro x y H F d e d' Q fh hx hy hg f
  unfold gEq at hg
  split at hg
  · rename_i hc
    cases hg
    obtain ⟨h1, h2⟩ := Bool.and_eq_true_iff.mp hc
    exact ⟨d, e, hx.dp fh (SeqAt.canLay_of_shaped h1), hy.dp fh (SeqAt.canLay_of_shaped h2), h1, h2, f _ H F (Grow.refl fh) (.bl _)⟩
  · cases hg
theorem sim_ne : Sim2 K (rNeD K) gNe := by
  intro x y H F d e d' Q fh hx hy hg f
  unfold gNe at hg
  split at hg
  · rename_i hc
    cases hg
    obtain ⟨h1, h2⟩ := Bool.and_eq_true_iff.mp hc
    exact ⟨d, e, hx.dp fh (SeqAt.canLay_of_shaped h1), hy.dp fh (SeqAt.canLay_of_shaped h2), h1, h2, f _ H F (Grow.refl fh) (.bl _)⟩
  · cases hg
def notNone : D → Bool
  | .none => false
  | _ => true
theorem notNone_ne {d : D} (h : notNone d = true) : d ≠ .none := fun e => by subst e; cases h
def rOrd (K : PySem.W.Frag) (g : D → D → Bool) : R2 := fun x y H Q => ∃ d e, Dp K H x d ∧ Dp K H y e ∧ PySem.W.alike d e = true ∧ d ≠ .none ∧ d.depth ≤ 64 ∧ Q (.bl (g d e)) H
theorem ord_room {A : Around} {d e : D} (hu : A.units + 64 < cLine) (h : d.depth ≤ 64) : A.units + min d.depth e.depth < cLine := by
  have : min d.depth e.depth ≤ d.depth := Nat.min_le_left _ _
  omega
theorem op_ltD (hu : X.A.units + 64 < cLine) : OpR X (compareOp .Lt) (rOrd X.K PySem.W.dataLt) := by
  intro pins s σ H x y v u Q I rx ry ⟨d, e, hd, he, ha, hn, hl, q⟩
  obtain ⟨as, r1⟩ := Dp.reads I d x v hd rx
  obtain ⟨bs, r2⟩ := Dp.reads I e y u he ry
  exact PySem.W.lt_data r1 r2 ha hn (ord_room hu hl) ⟨.bl _, H, I, rfl, q⟩
theorem op_gtD (hu : X.A.units + 64 < cLine) : OpR X (compareOp .Gt) (rOrd X.K fun d e => PySem.W.dataLt e d) := by
  intro pins s σ H x y v u Q I rx ry ⟨d, e, hd, he, ha, hn, hl, q⟩
  obtain ⟨as, r1⟩ := Dp.reads I d x v hd rx
  obtain ⟨bs, r2⟩ := Dp.reads I e y u he ry
  exact PySem.W.gt_data r1 r2 ha hn (ord_room hu hl) ⟨.bl _, H, I, rfl, q⟩
theorem op_leD (hu : X.A.units + 64 < cLine) : OpR X (compareOp .LtE) (rOrd X.K fun d e => !PySem.W.dataLt e d) := by
  intro pins s σ H x y v u Q I rx ry ⟨d, e, hd, he, ha, hn, hl, q⟩
  obtain ⟨as, r1⟩ := Dp.reads I d x v hd rx
  obtain ⟨bs, r2⟩ := Dp.reads I e y u he ry
  exact PySem.W.le_data r1 r2 ha hn (ord_room hu hl) ⟨.bl _, H, I, rfl, q⟩
theorem op_geD (hu : X.A.units + 64 < cLine) : OpR X (compareOp .GtE) (rOrd X.K fun d e => !PySem.W.dataLt d e) := by
  intro pins s σ H x y v u Q I rx ry ⟨d, e, hd, he, ha, hn, hl, q⟩
  obtain ⟨as, r1⟩ := Dp.reads I d x v hd rx
  obtain ⟨bs, r2⟩ := Dp.reads I e y u he ry
  exact PySem.W.ge_data r1 r2 ha hn (ord_room hu hl) ⟨.bl _, H, I, rfl, q⟩
def ordOk (d e : D) : Bool := PySem.W.alike d e && notNone d && d.canLay0 && e.canLay0 && decide (d.depth ≤ 64)
def gOrd (p : Int → Int → Bool) (g : D → D → Bool) : D → D → Option D
  | .int i, .int j => some (.bool (p i j))
  | d, e => if ordOk d e = true then some (.bool (g d e)) else none
def gLt : D → D → Option D := gOrd (fun i j => decide (i < j)) PySem.W.dataLt
def gGt : D → D → Option D := gOrd (fun i j => decide (j < i)) fun d e => PySem.W.dataLt e d
def gLe : D → D → Option D := gOrd (fun i j => decide (i ≤ j)) fun d e => !PySem.W.dataLt e d
def gGe : D → D → Option D := gOrd (fun i j => decide (j ≤ i)) fun d e => !PySem.W.dataLt d e
def rOrdV (K : PySem.W.Frag) (p : Int → Int → Bool) (g : D → D → Bool) : R2 := fun x y H Q => (rI0 fun i j => .bl (p i j)) x y H Q ∨ rOrd K g x y H Q
theorem sim_ord {p : Int → Int → Bool} {g : D → D → Bool} : Sim2 K (rOrdV K p g) (gOrd p g) := by
  intro x y H F d e d' Q fh hx hy hg f
  have gen : (if ordOk d e = true then some (.bool (g d e)) else none) = some d' → rOrdV K p g x y H Q := fun hg => by
    split at hg
    · rename_i hc
      cases hg
      unfold ordOk at hc
      simp only [Bool.and_eq_true, decide_eq_true_eq] at hc
      obtain ⟨⟨⟨⟨h1, h2⟩, h3⟩, h4⟩, h5⟩ := hc
      exact .inr ⟨d, e, hx.dp fh h3, hy.dp fh h4, h1, notNone_ne h2, h5, f _ H F (Grow.refl fh) (.bl _)⟩
    · cases hg
  unfold gOrd at hg
  split at hg
  · rename_i i j
    cases hg
    cases (show Rp K F x (.int i) from hx)
    cases (show Rp K F y (.int j) from hy)
    exact .inl ⟨i, j, rfl, rfl, f _ H F (Grow.refl fh) (.bl _)⟩
  · exact gen hg
theorem op_ltV (hu : X.A.units + 64 < cLine) : OpR X (compareOp .Lt) (rOrdV X.K (fun i j => decide (i < j)) PySem.W.dataLt) := op_lt.or (op_ltD hu)
theorem op_gtV (hu : X.A.units + 64 < cLine) : OpR X (compareOp .Gt) (rOrdV X.K (fun i j => decide (j < i)) fun d e => PySem.W.dataLt e d) := op_gt.or (op_gtD hu)
theorem op_leV (hu : X.A.units + 64 < cLine) : OpR X (compareOp .LtE) (rOrdV X.K (fun i j => decide (i ≤ j)) fun d e => !PySem.W.dataLt e d) := op_le.or (op_leD hu)
theorem op_geV (hu : X.A.units + 64 < cLine) : OpR X (compareOp .GtE) (rOrdV X.K (fun i j => decide (j ≤ i)) fun d e => !PySem.W.dataLt d e) := op_ge.or (op_geD hu)

end
end VL

set_option Elab.async false
set_option linter.all false
set_option autoImplicit false
set_option maxRecDepth 100000
namespace VL
open PySem PySem.Spec PyProof.Rows L2
section
variable {K : PySem.W.Frag} {X : Cx}

/-! ### is, is not -/
/-- x is y, y None or a bool -/
def isD (d e : D) : Option Bool := match e with
  | .none => some (match d with | .none => true | _ => false)
  | .bool b => some (match d with | .bool a => decide (a = b) | _ => false)
  | _ => none
def gIs (d e : D) : Option D := (isD d e).map fun b => .bool b
def gIsNot (d e : D) : Option D := (isD d e).map fun b => .bool (!b)
def plainV : V → Bool
  | .non => true
  | .bl _ => true
  | _ => false
def rIsV : R2 := fun x y H Q => plainV y = true ∧ Q (.bl (decide (x = y))) H
def rIsNotV : R2 := fun x y H Q => plainV y = true ∧ Q (.bl (!decide (x = y))) H
theorem plain_beq {x y : V} {v u : Value} (rx : RelV x v) (ry : RelV y u) (p : plainV y = true) : plainIs v u = true ∧ (v == u) = decide (x = y) := by
  cases y with
  | non =>
    cases ry
    refine ⟨?_, ?_⟩
    · cases x with
      | int i => obtain ⟨t, rfl⟩ := rx; rfl
      | str i => obtain ⟨t, rfl⟩ := rx; rfl
      | byt i => obtain ⟨t, rfl⟩ := rx; rfl
      | flt i => obtain ⟨t, rfl⟩ := rx; rfl
      | non => cases rx; rfl
      | bl b => cases rx; rfl
      | ref a => cases rx; rfl
      | ty n => cases rx; rfl
    · exact rx.none_iff
  | bl b =>
    cases ry
    cases x with
    | int i => obtain ⟨t, rfl⟩ := rx; exact ⟨rfl, by simp⟩
    | str i => obtain ⟨t, rfl⟩ := rx; exact ⟨rfl, by simp⟩
    | byt i => obtain ⟨t, rfl⟩ := rx; exact ⟨rfl, by simp⟩
    | flt i => obtain ⟨t, rfl⟩ := rx; exact ⟨rfl, by simp⟩
    | non => cases rx; exact ⟨rfl, by simp⟩
    | bl a =>
      cases rx
      refine ⟨rfl, ?_⟩
      by_cases e : a = b
      · subst e; simp
      · simp [e]
    | ref a => cases rx; exact ⟨rfl, by simp⟩
    | ty n => cases rx; exact ⟨rfl, by simp⟩
  | _ => cases p
theorem op_isV : OpR X (compareOp .Is) rIsV := by
  intro pins s σ H x y v u Q I rx ry ⟨p, q⟩
  obtain ⟨h1, h2⟩ := plain_beq rx ry p
  exact wpAny_is_plain h1 ⟨.bl _, H, I, by show Value.bool (v == u) = _; rw [h2], q⟩
theorem op_isNotV : OpR X (compareOp .IsNot) rIsNotV := by
  intro pins s σ H x y v u Q I rx ry ⟨p, q⟩
  obtain ⟨h1, h2⟩ := plain_beq rx ry p
  exact wpAny_isNot_plain h1 ⟨.bl _, H, I, by show Value.bool (!(v == u)) = _; rw [h2], q⟩
theorem isD_dec {H F : Hp} {x y : V} {d e : D} {b : Bool} (hx : Dq K H F x d) (hy : Dq K H F y e) (h : isD d e = some b) : plainV y = true ∧ decide (x = y) = b := by
  unfold isD at h
  split at h
  · cases (show Rp K F y .none from hy)
    cases h
    refine ⟨rfl, ?_⟩
    cases d with
    | list l => obtain ⟨a, vs, rfl, _⟩ := hx; simp
    | none => cases (show Rp K F x .none from hx); simp
    | bool b => cases (show Rp K F x (.bool b) from hx); simp
    | int b => cases (show Rp K F x (.int b) from hx); simp
    | str b => cases (show Rp K F x (.str b) from hx); simp
    | tuple b => cases (show Rp K F x (.tuple b) from hx); simp
    | dict b =>
      rcases (show Rp K F x (.dict b) ∨ _ from hx) with h | ⟨a, rfl, _⟩
      · cases h <;> simp
      · simp
  · rename_i b'
    cases (show Rp K F y (.bool b') from hy)
    cases h
    refine ⟨rfl, ?_⟩
    cases d with
    | list l => obtain ⟨a, vs, rfl, _⟩ := hx; simp
    | none => cases (show Rp K F x .none from hx); simp
    | bool b => cases (show Rp K F x (.bool b) from hx); simp
    | int b => cases (show Rp K F x (.int b) from hx); simp
    | str b => cases (show Rp K F x (.str b) from hx); simp
    | tuple b => cases (show Rp K F x (.tuple b) from hx); simp
    | dict b =>
      rcases (show Rp K F x (.dict b) ∨ _ from hx) with h | ⟨a, rfl, _⟩
      · cases h <;> simp
      · simp
  · cases h
theorem sim_is : Sim2 K rIsV gIs := by
  intro x y H F d e d' Q fh hx hy hg f
  unfold gIs at hg
  cases q : isD d e with
  | none => rw [q] at hg; cases hg
  | some b =>
    rw [q] at hg
    cases hg
    obtain ⟨h1, h2⟩ := isD_dec hx hy q
    exact ⟨h1, by rw [h2]; exact f _ H F (Grow.refl fh) (.bl _)⟩
theorem sim_isNot : Sim2 K rIsNotV gIsNot := by
  intro x y H F d e d' Q fh hx hy hg f
  unfold gIsNot at hg
  cases q : isD d e with
  | none => rw [q] at hg; cases hg
  | some b =>
    rw [q] at hg
    cases hg
    obtain ⟨h1, h2⟩ := isD_dec hx hy q
    exact ⟨h1, by rw [h2]; exact f _ H F (Grow.refl fh) (.bl _)⟩

/-! ### in, not in -/
def sign1 : D → Option Nat
  | .str ⟨⟨[c]⟩⟩ => some c
  | _ => none
theorem sign1_is {d : D} {c : Nat} (h : sign1 d = some c) : d = .str ⟨#[c]⟩ := by
  unfold sign1 at h
  split at h
  · cases h; rfl
  · cases h
def inD (d e : D) : Option Bool := match e with
  | .list l => if (SeqAt.shaped d && PyData.canLayAll0 l) = true then some (l.any fun y => PyData.eqv y d) else none
  | .tuple l => if (SeqAt.shaped d && PyData.canLayAll0 l) = true then some (l.any fun y => PyData.eqv y d) else none
  | .str z => (sign1 d).map fun c => decide (c ∈ z.cps.toList)
  | _ => none
def gIn (d e : D) : Option D := (inD d e).map fun b => .bool b
def gNotIn (d e : D) : Option D := (inD d e).map fun b => .bool (!b)
def rInD (K : PySem.W.Frag) (g : Bool → Bool) : R2 := fun x y H Q => (∃ d l, Dp K H x d ∧ (Dp K H y (.list l) ∨ Dp K H y (.tuple l)) ∧ SeqAt.shaped d = true ∧ PyData.canLayAll0 l = true ∧ Q (.bl (g (l.any fun y => PyData.eqv y d))) H) ∨
  ∃ (c : Nat) (z : Str), x = .str ⟨#[c]⟩ ∧ y = .str z ∧ Q (.bl (g (decide (c ∈ z.cps.toList)))) H
theorem in_room {A : Around} {d : D} {l : List D} (hu : A.units + 66 < cLine) (h : SeqAt.shaped d = true) : A.units + 1 + min (PyData.depthAll l) d.depth < cLine := by
  have h1 := SeqAt.depth_of_shaped h
  have h2 : min (PyData.depthAll l) d.depth ≤ d.depth := Nat.min_le_right _ _
  omega
theorem op_inV (hu : X.A.units + 66 < cLine) : OpR X (compareOp .In) (rInD X.K id) := by
  intro pins s σ H x y v u Q I rx ry h
  rcases h with ⟨d, l, hd, hl, h1, h2, q⟩ | h
  · obtain ⟨as, r1⟩ := Dp.reads I d x v hd rx
    rcases hl with hl | hl
    · obtain ⟨bs, r2⟩ := Dp.reads I _ y u hl ry
      exact SeqAt.in_list_reads r2 r1 h2 (SeqAt.canLay_of_shaped h1) (in_room hu h1) ⟨.bl _, H, I, rfl, q⟩
    · obtain ⟨bs, r2⟩ := Dp.reads I _ y u hl ry
      exact SeqAt.in_tuple_reads r2 r1 h2 (SeqAt.canLay_of_shaped h1) (in_room hu h1) ⟨.bl _, H, I, rfl, q⟩
  · exact op_in_sign pins s σ H x y v u Q I rx ry h
theorem op_notInV (hu : X.A.units + 66 < cLine) : OpR X (compareOp .NotIn) (rInD X.K not) := by
  intro pins s σ H x y v u Q I rx ry h
  rcases h with ⟨d, l, hd, hl, h1, h2, q⟩ | h
  · obtain ⟨as, r1⟩ := Dp.reads I d x v hd rx
    rcases hl with hl | hl
    · obtain ⟨bs, r2⟩ := Dp.reads I _ y u hl ry
      exact SeqAt.notIn_list_reads r2 r1 h2 (SeqAt.canLay_of_shaped h1) (in_room hu h1) ⟨.bl _, H, I, rfl, q⟩
    · obtain ⟨bs, r2⟩ := Dp.reads I _ y u hl ry
      exact SeqAt.notIn_tuple_reads r2 r1 h2 (SeqAt.canLay_of_shaped h1) (in_room hu h1) ⟨.bl _, H, I, rfl, q⟩
  · exact op_notIn_sign pins s σ H x y v u Q I rx ry h
theorem in_end {g : Bool → Bool} {x y : V} {H F : Hp} {d e : D} {b : Bool} {Q : VK} (fh : HLe F H) (hx : Dq K H F x d) (hy : Dq K H F y e) (h : inD d e = some b) (q : Q (.bl (g b)) H) : rInD K g x y H Q := by
  unfold inD at h
  split at h
  · rename_i l
    split at h
    · rename_i hc
      cases h
      obtain ⟨h1, h2⟩ := Bool.and_eq_true_iff.mp hc
      exact .inl ⟨d, l, hx.dp fh (SeqAt.canLay_of_shaped h1), .inl (hy.dp fh (by simpa [PyData.canLay0] using h2)), h1, h2, q⟩
    · cases h
  · rename_i l
    split at h
    · rename_i hc
      cases h
      obtain ⟨h1, h2⟩ := Bool.and_eq_true_iff.mp hc
      exact .inl ⟨d, l, hx.dp fh (SeqAt.canLay_of_shaped h1), .inr (hy.dp fh (by simpa [PyData.canLay0] using h2)), h1, h2, q⟩
    · cases h
  · rename_i z
    cases hs : sign1 d with
    | none => rw [hs] at h; cases h
    | some n =>
      rw [hs] at h
      cases h
      have e := sign1_is hs
      subst e
      cases (show Rp K F x _ from hx)
      cases (show Rp K F y _ from hy)
      exact .inr ⟨n, z, rfl, rfl, q⟩
  · cases h
theorem sim_in : Sim2 K (rInD K id) gIn := by
  intro x y H F d e d' Q fh hx hy hg f
  unfold gIn at hg
  cases q : inD d e with
  | none => rw [q] at hg; cases hg
  | some b => rw [q] at hg; cases hg; exact in_end fh hx hy q (f _ H F (Grow.refl fh) (.bl _))
theorem sim_notIn : Sim2 K (rInD K not) gNotIn := by
  intro x y H F d e d' Q fh hx hy hg f
  unfold gNotIn at hg
  cases q : inD d e with
  | none => rw [q] at hg; cases hg
  | some b => rw [q] at hg; cases hg; exact in_end fh hx hy q (f _ H F (Grow.refl fh) (.bl _))

/-! ### items, slices -/
def gIx (d e : D) : Option D := match d, e with
  | .list l, .int i => atI l i
  | .tuple l, .int i => atI l i
  | .str z, .int i => if decide (z.length ≤ 16777216) = true then (atI z.cps.toList i).map fun c => .str ⟨#[c]⟩ else none
  | _, _ => none
theorem atI_rp {F : Hp} {vs : List V} {ds : List D} {i : Int} {d : D} (r : RpAll K F vs ds) (h : atI ds i = some d) : ∃ v, atI vs i = some v ∧ Rp K F v d := by
  unfold atI at h ⊢
  rw [r.length]
  cases q : ixN ds.length i with
  | none => rw [q] at h; cases h
  | some j =>
    rw [q] at h
    exact r.get h
theorem sim_ix : Sim2 K (rIx K) gIx := by
  intro x y H F d e d' Q fh hx hy hg f
  unfold gIx at hg
  split at hg
  · rename_i l i
    obtain ⟨a, vs, rfl, q, r⟩ := (show ∃ a vs, x = .ref a ∧ H a = some (.lst vs) ∧ RpAll K F vs l from hx)
    cases (show Rp K F y (.int i) from hy)
    obtain ⟨v, h1, h2⟩ := atI_rp r hg
    exact .inl ⟨a, vs, i, v, rfl, rfl, SqL.of q, h1, f _ H F (Grow.refl fh) h2⟩
  · rename_i l i
    cases (show Rp K F x (.tuple l) from hx) with
    | tup q r =>
      cases (show Rp K F y (.int i) from hy)
      obtain ⟨v, h1, h2⟩ := atI_rp r hg
      exact .inr (.inl ⟨_, _, i, v, rfl, rfl, SqT.le fh q, h1, f _ H F (Grow.refl fh) h2⟩)
  · rename_i z i
    split at hg
    · rename_i hc
      cases (show Rp K F x (.str z) from hx)
      cases (show Rp K F y (.int i) from hy)
      cases q : atI z.cps.toList i with
      | none => rw [q] at hg; cases hg
      | some n =>
        rw [q] at hg
        cases hg
        exact .inr (.inr ⟨z, i, n, rfl, rfl, by rw [sizeLine_eq]; exact of_decide_eq_true hc, q, f _ H F (Grow.refl fh) (.str _)⟩)
    · cases hg
  · cases hg
def cutA {α : Type} (xs : List α) (lo hi : Option Int) : List α := (xs.drop (HT.sIx xs.length 0 lo)).take (HT.sIx xs.length xs.length hi - HT.sIx xs.length 0 lo)
theorem cut_rp {F : Hp} {vs : List V} {ds : List D} (r : RpAll K F vs ds) (lo hi : Option Int) : RpAll K F (cutV vs lo hi) (cutA ds lo hi) := by
  unfold cutV cutA
  rw [r.length]
  exact (r.drop _).take _
def gSl (d : D) (lo hi : Option Int) : Option D := match d with
  | .list l => some (.list (cutA l lo hi))
  | .tuple l => some (.tuple (cutA l lo hi))
  | .str z => if decide (z.length ≤ 16777216) = true then some (.str (cutS z lo hi)) else none
  | _ => none
def rSlV (K : PySem.W.Frag) : V → Option Int → Option Int → Hp → VK → Prop := fun x lo hi H Q => rSlL K x lo hi H Q ∨ (rSlA K x lo hi H Q ∨ rSlS x lo hi H Q)
theorem sl_V : SlR X (rSlV X.K) := sl_list.or (sl_tupA.or sl_str)
def SimS (K : PySem.W.Frag) (r : V → Option Int → Option Int → Hp → VK → Prop) (g : D → Option Int → Option Int → Option D) : Prop :=
  ∀ x lo hi H F d d' Q, HLe F H → Dq K H F x d → g d lo hi = some d' → (∀ v H' F', Grow H F H' F' → Rp K F' v d' → Q v H') → r x lo hi H Q
theorem sim_sl : SimS K (rSlV K) gSl := by
  intro x lo hi H F d d' Q fh hx hg f
  unfold gSl at hg
  split at hg
  · rename_i l
    cases hg
    obtain ⟨a, vs, rfl, q, r⟩ := (show ∃ a vs, x = .ref a ∧ H a = some (.lst vs) ∧ RpAll K F vs l from hx)
    refine .inl ⟨a, vs, rfl, SqL.of q, fun p hp => ?_⟩
    have gr := Grow.new1 (o := .lst (cutV vs lo hi)) fh hp
    exact f _ _ _ gr (.lst upd_same (RpAll.le gr.ff (cut_rp r lo hi)))
  · rename_i l
    cases hg
    cases (show Rp K F x (.tuple l) from hx) with
    | @tup a vs _ q r =>
      refine .inr (.inl ⟨a, vs, rfl, SqT.le fh q, fun ⟨h1, h2⟩ => ?_, fun _ p hp => ?_⟩)
      · have e : cutA l lo hi = l := by
          unfold cutA
          rw [← r.length, h1, h2, List.drop_zero, Nat.sub_zero, r.length, List.take_length]
        rw [e] at f
        exact f _ H F (Grow.refl fh) (.tup q r)
      · have gr := Grow.new1 (o := .tup (cutV vs lo hi)) fh hp
        exact f _ _ _ gr (.tup (SqT.of upd_same) (RpAll.le gr.ff (cut_rp r lo hi)))
  · rename_i z
    split at hg
    · rename_i hc
      cases hg
      cases (show Rp K F x (.str z) from hx)
      exact .inr (.inr ⟨z, rfl, by rw [sizeLine_eq]; exact of_decide_eq_true hc, f _ H F (Grow.refl fh) (.str _)⟩)
    · cases hg
  · cases hg
end
/-- a slice's part -/
def moN : M (Option Int) := mPure none
def moS (m : M R) : M (Option Int) := mBind m fun r ρ => match look ρ r with
  | some (.int i) => .ok (some i) ρ
  | _ => .bad
def RepO (_ : Rho) (_ : Hp) (a b : Option Int) : Prop := b = a
def tO (c : Vx) (m : M (Option Int)) : TO := fun σ H Q => tX c m RepO σ H Q
def mSl (g : D → Option Int → Option Int → Option D) (m : M R) (lo hi : M (Option Int)) : M R := mBind m fun r => mBind lo fun l => mBind hi fun u ρ => match look ρ r with
  | some d => fin1 ρ (g d l u)
  | none => .bad
section
variable {X : Cx} {c : Vx} {G : Hp} {ρ : Rho} {σ : L2.St} {H F F1 : Hp}
variable {a b e : Expr} {es rest : List Expr} {p pos : Pos} {m n : M R} {st : Stmt}
theorem po_weak {e : Option Expr} {t t' : TO} (h : PO X e t) (w : ∀ σ H Q, t' σ H Q → t σ H Q) : PO X e t' := ⟨fun pins s σ H Q I q => h.run pins s σ H Q I (w σ H Q q)⟩
theorem vo_none : PO X none (tO c moN) := po_weak po_none fun σ H Q ⟨ρ, F, G, k, h⟩ => h none H F (Ext.refl G F) k rfl
theorem vo_some (h : PE X e (tM c m)) : PO X (some e) (tO c (moS m)) := po_weak (po_some h) fun σ H Q h => by
  obtain ⟨ρ, F, G, k, h⟩ := one_of h
  refine ⟨ρ, F, G, k, h.imp fun x H1 ⟨ρ1, F1, G1, r, k1, r1, h1⟩ => ?_⟩
  cases q : look ρ1 r with
  | none => simp only [q] at h1; exact h1.elim
  | some d =>
    cases d with
    | int i =>
      simp only [q] at h1
      have z := look_dq k1 r1 q
      cases (show Rp c.K F1 x (.int i) from z)
      exact ⟨i, rfl, h1 (some i) H1 F1 (Ext.refl G1 F1) k1 rfl⟩
    | _ => simp only [q] at h1; exact h1.elim
theorem ve_slice {r : V → Option Int → Option Int → Hp → VK → Prop} {g : D → Option Int → Option Int → Option D} {lo hi : Option Expr} {ml mh : M (Option Int)} {p2 : Pos} (hr : SlR X r) (sim : SimS c.K r g) (he : PE X e (tM c m)) (hl : PO X lo (tO c ml)) (hh : PO X hi (tO c mh)) :
    PE X (.Subscript e (.Slice lo hi none p2) pos) (tM c (mSl g m ml mh)) :=
  pe_weak (pe_slice hr he hl hh) fun σ H Q ⟨ρ, F, G, k, h⟩ => by
    refine ⟨ρ, F, G, k, (Wn.bind (rep := RepR c σ) h).imp fun x H1 ⟨ρ1, F1, u, e1, k1, r1, h1⟩ => ?_⟩
    refine ⟨ρ1, F1, G, k1, (Wn.bind (rep := RepO) h1).imp fun l H2 ⟨ρ2, F2, l', e2, k2, r2, h2⟩ => ?_⟩
    have r2 : l = l' := r2
    subst r2
    refine ⟨ρ2, F2, G, k2, (Wn.bind (rep := RepO) h2).imp fun u' H3 ⟨ρ3, F3, l', e3, k3, r3, h3⟩ => ?_⟩
    have r3 : u' = l' := r3
    subst r3
    cases q : look ρ3 u with
    | none => simp only [q] at h3; exact h3.elim
    | some d =>
      simp only [q] at h3
      obtain ⟨d', ed, f⟩ := fin1_ok h3 k3
      exact sim x l u' H3 F3 d d' Q k3.fh (look_dq k3 (r1.mono (e2.le.trans e3.le)) q) ed f
end
end VL

set_option Elab.async false
set_option linter.all false
set_option autoImplicit false
set_option maxRecDepth 100000
namespace VL
open PySem PySem.Spec PyProof.Rows L2

/-! ### tuple * int, of any number -/
theorem tuple_mulSame (l : Addr) (items : Array Value) (n : Nat) (dd : Option Addr) (sl : Array (Option Value)) (x : Int) (u : Tok) (c0 : (decide (x < -(2 ^ 63)) || decide (x ≥ 2 ^ 63)) = false) (c1 : (items.isEmpty || x == 1) = true) :
    Meets (Builtin.«tuple.__mul__» ⟨[.ref l, .int x u], []⟩) (fun _ R s => s.heap.get? l = some { cls := .type "tuple", dict := dd, data := .seq items n, slots := sl } ∧
      R (.ok (.ret (Value.ref l))) s) :=
  .of_wp fun prog w A R s h => by
    obtain ⟨hp, g, d, tk, os⟩ := s
    obtain ⟨hl, h⟩ := h
    have f1 := AutoSeq1.idx_int
    wp_walk using wpAny_loadPart' hl
    repeat (first
      | (refine wpAny_ite_false (decide_eq_false (by rw [c0]; exact Bool.false_ne_true)) ?_; wp_walk using wpAny_loadPart' hl)
      | (refine wpAny_ite_true (decide_eq_true c1) ?_; wp_walk using wpAny_loadPart' hl))
    exact ⟨_, rfl, h⟩
theorem tuple_mulNone (l : Addr) (items : Array Value) (n : Nat) (dd : Option Addr) (sl : Array (Option Value)) (x : Int) (u : Tok) (c0 : (decide (x < -(2 ^ 63)) || decide (x ≥ 2 ^ 63)) = false) (c1 : (items.isEmpty || x == 1) = false) (c2 : (decide (x ≤ 0) || items.isEmpty) = true) :
    Meets (Builtin.«tuple.__mul__» ⟨[.ref l, .int x u], []⟩) (fun _ R s => s.heap.get? l = some { cls := .type "tuple", dict := dd, data := .seq items n, slots := sl } ∧
      R (.ok (.ret (Value.ref s.heap.objs.size))) { s with heap := s.heap.push { cls := Value.type "tuple", data := Data.seq #[] }, toks := s.toks }) :=
  .of_wp fun prog w A R s h => by
    obtain ⟨hp, g, d, tk, os⟩ := s
    obtain ⟨hl, h⟩ := h
    have f1 := AutoSeq1.idx_int
    wp_walk using wpAny_loadPart' hl
    repeat (first
      | (refine wpAny_ite_false (decide_eq_false (by rw [c0]; exact Bool.false_ne_true)) ?_; wp_walk using wpAny_loadPart' hl)
      | (refine wpAny_ite_false (decide_eq_false (by rw [c1]; exact Bool.false_ne_true)) ?_; wp_walk using wpAny_loadPart' hl)
      | (refine wpAny_ite_true (decide_eq_true c2) ?_; wp_walk using wpAny_loadPart' hl))
    exact ⟨_, rfl, h⟩
def rRepA (K : PySem.W.Frag) : R2 := fun x y H Q => ∃ l k xs, x = .ref l ∧ y = .int k ∧ SqT K H l xs ∧ -(2 ^ 63) ≤ k ∧ k < 2 ^ 63 ∧ xs.length * k.toNat ≤ 16777216 ∧
  ((xs = [] ∨ k = 1) → Q (.ref l) H) ∧ (xs ≠ [] → k ≠ 1 → ∀ p, H p = none → Q (.ref p) (upd H p (.tup (List.replicate k.toNat xs).flatten)))
theorem op_repA {X : Cx} : OpR X (binaryOp .Mult) (rRepA X.K) := by
  intro pins s σ H x y v u Q I rx ry h
  obtain ⟨l, k, xs, rfl, rfl, hT, h1, h2, hz, q1, q2⟩ := h
  cases rx
  obtain ⟨t, rfl⟩ := ry
  obtain ⟨its, r, ⟨⟨cls, dd, data, sl⟩, ho, hc, n, hd⟩, hs⟩ := I.tuple hT
  simp only at hc hd
  subst hc hd
  have hle : its.length = xs.length := r.length.symm
  have c0 : (decide (k < -(2 ^ 63)) || decide (k ≥ 2 ^ 63)) = false := by
    rw [decide_eq_false (by omega), decide_eq_false (by omega)] <;> rfl
  have go : ∀ {w' : Value} {s' : Shared}, Meets (Builtin.«tuple.__mul__» ⟨[.ref l, .int k t], []⟩) (fun _ R s => s.heap.get? l = some { cls := .type "tuple", dict := dd, data := .seq its.toArray n, slots := sl } ∧ R (.ok (.ret w')) s') → EP X pins σ Q w' s' → s = s → wpAny (model X.prog X.w) X.A (binaryOp .Mult (.ref l) (.int k t)) (EP X pins σ Q) X.xe s := fun {w' s'} M q _ =>
    wpAny_binaryOp_repeat_ref (T := "tuple") (U := "int") (by decide) ⟨_, ho, rfl⟩ (fun s' => typeIs_int s' k t) noFill_tuple_mul F.fills_int_mul F.slot_int_rmul repeat_tuple F.slot_int_index.lookup
      (call_meets F.slot_int_rmul (typeIs_int s k t) F.entry_int_rmul (F.args_int_rmul_2 _ _) (int_rmul_tuple k t l its.toArray n dd sl)
        ⟨ho, rfl, ⟨_, ho, rfl⟩, call_meets F.slot_tuple_mul ⟨_, ho, rfl⟩ F.entry_tuple_mul (F.args_tuple_mul_2 _ _) M ⟨ho, q⟩⟩)
  by_cases hsame : xs = [] ∨ k = 1
  · have c1 : (its.toArray.isEmpty || k == 1) = true := by
      rcases hsame with e | e
      · have : its = [] := List.eq_nil_of_length_eq_zero (by rw [hle, e]; rfl)
        rw [this]; rfl
      · rw [e]; simp
    refine wpAny_binaryOp_repeat_ref (T := "tuple") (U := "int") (by decide) ⟨_, ho, rfl⟩ (fun s' => typeIs_int s' k t) noFill_tuple_mul F.fills_int_mul F.slot_int_rmul repeat_tuple F.slot_int_index.lookup
      (call_meets F.slot_int_rmul (typeIs_int s k t) F.entry_int_rmul (F.args_int_rmul_2 _ _) (int_rmul_tuple k t l its.toArray n dd sl)
        ⟨ho, rfl, ⟨_, ho, rfl⟩, call_meets F.slot_tuple_mul ⟨_, ho, rfl⟩ F.entry_tuple_mul (F.args_tuple_mul_2 _ _) (tuple_mulSame l its.toArray n dd sl k t c0 c1) ⟨ho, ?_⟩⟩)
    exact ⟨.ref l, H, I, rfl, q1 hsame⟩
  · have hne : xs ≠ [] := fun e => hsame (.inl e)
    have hk1 : k ≠ 1 := fun e => hsame (.inr e)
    have hn : its ≠ [] := fun e => hne (by
      rw [e] at hle
      exact List.eq_nil_of_length_eq_zero hle.symm)
    have hi : its.toArray.isEmpty = false := by
      cases its with
      | nil => exact absurd rfl hn
      | cons a b => rfl
    have c1 : (its.toArray.isEmpty || k == 1) = false := by
      rw [hi, Bool.false_or]
      exact beq_eq_false_iff_ne.mpr hk1
    by_cases hk : k ≤ 0
    · have c2 : (decide (k ≤ 0) || its.toArray.isEmpty) = true := by rw [decide_eq_true hk]; rfl
      refine wpAny_binaryOp_repeat_ref (T := "tuple") (U := "int") (by decide) ⟨_, ho, rfl⟩ (fun s' => typeIs_int s' k t) noFill_tuple_mul F.fills_int_mul F.slot_int_rmul repeat_tuple F.slot_int_index.lookup
        (call_meets F.slot_int_rmul (typeIs_int s k t) F.entry_int_rmul (F.args_int_rmul_2 _ _) (int_rmul_tuple k t l its.toArray n dd sl)
          ⟨ho, rfl, ⟨_, ho, rfl⟩, call_meets F.slot_tuple_mul ⟨_, ho, rfl⟩ F.entry_tuple_mul (F.args_tuple_mul_2 _ _) (tuple_mulNone l its.toArray n dd sl k t c0 c1 c2) ⟨ho, ?_⟩⟩)
      have e0 : (List.replicate k.toNat xs).flatten = [] := by rw [show k.toNat = 0 by omega]; rfl
      have q3 := q2 hne hk1 s.heap.objs.size (I.hok.fresh (Nat.le_refl _))
      rw [e0] at q3
      exact ⟨.ref s.heap.objs.size, _, I.laid (t' := s.toks) (o := .tup []) (fun b ob q => Heap.get?_push_of_some _ q) (Nat.le_refl _) ⟨Nat.zero_le _, [], .nil, IsTup.new _ _⟩, rfl, q3⟩
    · have hsz0 : its.toArray.size = xs.length := by rw [List.size_toArray, hle]
      have ek : ((k.toNat : Nat) : Int) = k := by omega
      have hm : ((its.toArray.size : Nat) : Int) * k ≤ 16777216 := by
        rw [hsz0, ← ek, ← Int.natCast_mul]
        omega
      have flen : (List.replicate k.toNat its).flatten.length ≤ sizeLine := by
        rw [PyProof.Rows.lm_len_rep_flat, hle, sizeLine_eq, Nat.mul_comm]
        exact hz
      have c2 : (decide (k ≤ 0) || its.toArray.isEmpty) = false := by
        rw [hi, Bool.or_false]
        exact decide_eq_false hk
      have c4 : Builtin.Tuple.tupleTooMany (((its.toArray.size : Nat) : Int) * k) = false := by
        unfold Builtin.Tuple.tupleTooMany
        rw [sizeLine_eq]
        exact decide_eq_false (by omega)
      refine wpAny_binaryOp_repeat_ref (T := "tuple") (U := "int") (by decide) ⟨_, ho, rfl⟩ (fun s' => typeIs_int s' k t) noFill_tuple_mul F.fills_int_mul F.slot_int_rmul repeat_tuple F.slot_int_index.lookup
        (call_meets F.slot_int_rmul (typeIs_int s k t) F.entry_int_rmul (F.args_int_rmul_2 _ _) (int_rmul_tuple k t l its.toArray n dd sl)
          ⟨ho, rfl, ⟨_, ho, rfl⟩, call_meets F.slot_tuple_mul ⟨_, ho, rfl⟩ F.entry_tuple_mul (F.args_tuple_mul_2 _ _) (tuple_mulW l its.toArray n dd sl k t c0 c1 c2 (by omega) c4 (by rw [size_rep, List.size_toArray]; exact flen)) ⟨ho, ?_⟩⟩)
      rw [size_rep]
      refine ⟨.ref s.heap.objs.size, _, I.laid (t' := s.toks) (o := .tup (List.replicate k.toNat xs).flatten) (fun b ob q => Heap.get?_push_of_some _ q) (Nat.le_refl _) ?_, rfl, q2 hne hk1 _ (I.hok.fresh (Nat.le_refl _))⟩
      exact ⟨by rw [PyProof.Rows.lm_len_rep_flat, sizeLine_eq, Nat.mul_comm]; exact hz, _, r.rep k.toNat, IsTup.new _ _⟩
def repOk {α : Type} (l : List α) (k : Int) : Bool := decide (k.natAbs < 9223372036854775808) && decide (l.length * k.toNat ≤ 16777216)
def gMul : D → D → Option D
  | .int i, .int j => if mulOk i j = true then some (.int (i * j)) else none
  | .tuple l, .int k => if repOk l k = true then some (.tuple (List.replicate k.toNat l).flatten) else none
  | .list l, .int k => if repOk l k = true then some (.list (List.replicate k.toNat l).flatten) else none
  | _, _ => none
def rMulV (K : PySem.W.Frag) : R2 := fun x y H Q => (rI CMul fun i j => .int (i * j)) x y H Q ∨ (rRepA K x y H Q ∨ rRep x y H Q)
theorem op_mulV {X : Cx} : OpR X (binaryOp .Mult) (rMulV X.K) := op_mul.or (op_repA.or op_rep)
theorem sim_mul {K : PySem.W.Frag} : Sim2 K (rMulV K) gMul := by
  intro x y H F d e d' Q fh hx hy hg f
  unfold gMul at hg
  split at hg
  · rename_i i j
    split at hg
    · rename_i hc
      cases hg
      cases (show Rp K F x (.int i) from hx)
      cases (show Rp K F y (.int j) from hy)
      have hc := mulOk_is hc
      exact .inl ⟨i, j, rfl, rfl, hc, f _ H F (Grow.refl fh) (.int _)⟩
    · cases hg
  · rename_i l k
    split at hg
    · rename_i hc
      cases hg
      unfold repOk at hc
      simp only [Bool.and_eq_true, decide_eq_true_eq] at hc
      cases (show Rp K F x (.tuple l) from hx) with
      | @tup a vs _ q r =>
        cases (show Rp K F y (.int k) from hy)
        refine .inr (.inl ⟨a, k, vs, rfl, rfl, SqT.le fh q, (by have := hc.1; omega), (by have := hc.1; omega), by rw [r.length]; exact hc.2, fun e => ?_, fun _ _ p hp => ?_⟩)
        · refine f _ H F (Grow.refl fh) ?_
          have : (List.replicate k.toNat l).flatten = l := by
            rcases e with e | e
            · subst e; cases r; simp
            · subst e; simp
          rw [this]
          exact .tup q r
        · have gr := Grow.new1 (o := .tup (List.replicate k.toNat vs).flatten) fh hp
          exact f _ _ _ gr (.tup (SqT.of upd_same) (RpAll.le gr.ff (r.rep _)))
    · cases hg
  · rename_i l k
    split at hg
    · rename_i hc
      cases hg
      unfold repOk at hc
      simp only [Bool.and_eq_true, decide_eq_true_eq] at hc
      obtain ⟨a, vs, rfl, q, r⟩ := (show ∃ a vs, x = .ref a ∧ H a = some (.lst vs) ∧ RpAll K F vs l from hx)
      cases (show Rp K F y (.int k) from hy)
      refine .inr (.inr ⟨a, k, vs, rfl, rfl, q, (by have := hc.1; omega), (by have := hc.1; omega), by rw [r.length, sizeLine_eq]; exact hc.2, fun p hp => ?_⟩)
      have gr := Grow.new1 (o := .lst (List.replicate k.toNat vs).flatten) fh hp
      exact f _ _ _ gr (.lst upd_same (RpAll.le gr.ff (r.rep _)))
    · cases hg
  · cases hg
end VL

set_option Elab.async false
set_option linter.all false
set_option autoImplicit false
set_option maxRecDepth 100000
namespace VL
open PySem PySem.Spec PyProof.Rows L2
section
variable {K : PySem.W.Frag} {X : Cx}

/-! ### len, abs, int, bool, str -/
def lenD : D → Option Nat
  | .list l => some l.length
  | .tuple l => some l.length
  | .str z => if decide (z.length ≤ 16777216) = true then some z.length else none
  | .dict [] => some 0
  | .dict ((k, _) :: r) => if isNo k = true then none else some (r.length + 1)
  | _ => none
def gLen : List D → Option D
  | [d] => (lenD d).map fun n => .int (n : Int)
  | _ => none
def rLenV (K : PySem.W.Frag) : List V → Hp → VK → Prop := fun xs H Q => (∃ x n, xs = [x] ∧ LenV K x H n ∧ Q (.int n) H) ∨ ∃ a n, xs = [.ref a] ∧ ((∃ kvs, Rd H a (.dK kvs) ∧ n = kvs.length) ∨ ∃ kvs, Rd H a (.dT kvs) ∧ n = kvs.length) ∧ Q (.int ((n : Nat) : Int)) H
theorem cr_len : CallR X (.builtin "len") (rLenV X.K) := by
  intro pins s σ H xs us Q I r h
  rcases h with h | ⟨a, n, rfl, ⟨kvs, e, rfl⟩ | ⟨kvs, e, rfl⟩, q⟩
  · exact call_len pins s σ H xs us Q I r h
  · rw [Vals.ref1 r]
    exact d_len I e fun t s' I' => ⟨.int _, H, I', ⟨_, rfl⟩, q⟩
  · rw [Vals.ref1 r]
    obtain ⟨z, hd, ys, rel, dd⟩ := dt_rd I.hok e
    have hl : kvs.length = ys.length := Paired.length rel
    refine call_len_dictH hd dd (by rw [← hl]; rw [sizeLine_eq] at z; omega) ?_
    rw [← hl]
    exact ⟨.int _, H, I.tok _, ⟨_, rfl⟩, q⟩
theorem RpKs.length {F : Hp} : ∀ {kvs : List (Key × V)} {es : List (D × D)}, RpKs K F kvs es → kvs.length = es.length
  | _, _, .nil => rfl
  | _, _, .cons _ r => congrArg (· + 1) r.length
theorem RpTs.length {F : Hp} : ∀ {kvs : List (List Key × V)} {es : List (D × D)}, RpTs K F kvs es → kvs.length = es.length
  | _, _, .nil => rfl
  | _, _, .cons _ r => congrArg (· + 1) r.length
/-- a dict, own or locked -/
theorem dq_dict {H F : Hp} {x : V} {es : List (D × D)} (fh : HLe F H) (h : Dq K H F x (.dict es)) (hn : ∀ l, es ≠ [(.none, l)]) : ∃ a, x = .ref a ∧ ((∃ kvs, Rd H a (.dK kvs) ∧ RpKs K F kvs es) ∨ ∃ kvs, Rd H a (.dT kvs) ∧ RpTs K F kvs es) := by
  rcases h with h | ⟨a, rfl, ⟨kvs, q, r⟩ | ⟨kvs, q, r⟩⟩
  · cases h with
    | frl q r => exact absurd rfl (hn _)
    | dct q r => exact ⟨_, rfl, .inl ⟨_, .inr ⟨_, fh _ _ q⟩, r⟩⟩
    | dctT q r => exact ⟨_, rfl, .inr ⟨_, .inr ⟨_, fh _ _ q⟩, r⟩⟩
  · exact ⟨_, rfl, .inl ⟨_, .inl q, r⟩⟩
  · exact ⟨_, rfl, .inr ⟨_, .inl q, r⟩⟩
theorem sim_len : SimN K (rLenV K) gLen := by
  intro xs H F ds d' Q fh hx hg f
  unfold gLen at hg
  split at hg
  · rename_i d
    cases hx with
    | @cons x _ _ _ hx ht =>
      cases ht
      cases q : lenD d with
      | none => rw [q] at hg; cases hg
      | some n =>
        rw [q] at hg
        cases hg
        have fin := f _ H F (Grow.refl fh) (.int (n : Int))
        have dict : ∀ es, d = .dict es → n = es.length ∧ (∀ l, es ≠ [(.none, l)]) := fun es e => by
          subst e
          cases es with
          | nil => cases q; exact ⟨rfl, fun l z => by cases z⟩
          | cons p r =>
            obtain ⟨p, v⟩ := p
            have e : (if isNo p = true then none else some (r.length + 1)) = some n := q
            by_cases hp : isNo p = true
            · rw [if_pos hp] at e; cases e
            · rw [if_neg hp] at e; cases e; exact ⟨rfl, fun l z => by cases z; exact hp rfl⟩
        cases d with
        | list l => cases q; obtain ⟨a, vs, rfl, q, r⟩ := hx; exact .inl ⟨_, _, rfl, .inl ⟨vs, SqL.of q, r.length.symm⟩, fin⟩
        | tuple l =>
          cases q
          cases (show Rp K F x _ from hx) with
          | tup q r => exact .inl ⟨_, _, rfl, .inr ⟨_, SqT.le fh q, r.length.symm⟩, fin⟩
        | str z =>
          have q' : (if decide (z.length ≤ 16777216) = true then some z.length else none) = some n := q
          by_cases hc : decide (z.length ≤ 16777216) = true
          · rw [if_pos hc] at q'
            cases q'
            cases (show Rp K F x _ from hx)
            exact .inl ⟨_, _, rfl, ⟨by rw [sizeLine_eq]; exact of_decide_eq_true hc, rfl⟩, fin⟩
          · rw [if_neg hc] at q'; cases q'
        | dict es =>
          obtain ⟨rfl, hn⟩ := dict es rfl
          obtain ⟨a, rfl, ⟨kvs, h1, h2⟩ | ⟨kvs, h1, h2⟩⟩ := dq_dict fh hx hn
          · exact .inr ⟨a, _, rfl, .inl ⟨kvs, h1, h2.length.symm⟩, fin⟩
          · exact .inr ⟨a, _, rfl, .inr ⟨kvs, h1, h2.length.symm⟩, fin⟩
        | _ => cases q
  · cases hg
def gAbs : List D → Option D
  | [.int i] => some (.int (if i < 0 then -i else i))
  | _ => none
def gInt : List D → Option D
  | [.int i] => some (.int i)
  | [.bool b] => some (.int (if b then 1 else 0))
  | _ => none
def gBool : List D → Option D
  | [.int i] => some (.bool (i != 0))
  | [.bool b] => some (.bool b)
  | _ => none
def gStr : List D → Option D
  | [.int i] => if decide (i.natAbs.log2 < 1920) = true then some (.str (toString i)) else none
  | _ => none
theorem dq1 {H F : Hp} {xs : List V} {d : D} (h : DqAll K H F xs [d]) : ∃ x, xs = [x] ∧ Dq K H F x d := by
  cases h with
  | cons h t => cases t; exact ⟨_, rfl, h⟩
theorem dq2 {H F : Hp} {xs : List V} {d e : D} (h : DqAll K H F xs [d, e]) : ∃ x y, xs = [x, y] ∧ Dq K H F x d ∧ Dq K H F y e := by
  cases h with
  | cons h t => cases t with
    | cons h' t => cases t; exact ⟨_, _, rfl, h, h'⟩
theorem sim_abs : SimN K (fun xs H Q => ∃ i, xs = [.int i] ∧ Q (.int (if i < 0 then -i else i)) H) gAbs := by
  intro xs H F ds d' Q fh hx hg f
  unfold gAbs at hg
  split at hg
  · cases hg
    obtain ⟨x, rfl, h⟩ := dq1 hx
    cases (show Rp K F x _ from h)
    exact ⟨_, rfl, f _ H F (Grow.refl fh) (.int _)⟩
  · cases hg
theorem sim_int : SimN K (fun xs H Q => (∃ i, xs = [.int i] ∧ Q (.int i) H) ∨ ∃ k, xs = [.bl k] ∧ Q (.int (if k then 1 else 0)) H) gInt := by
  intro xs H F ds d' Q fh hx hg f
  unfold gInt at hg
  split at hg
  · cases hg
    obtain ⟨x, rfl, h⟩ := dq1 hx
    cases (show Rp K F x _ from h)
    exact .inl ⟨_, rfl, f _ H F (Grow.refl fh) (.int _)⟩
  · cases hg
    obtain ⟨x, rfl, h⟩ := dq1 hx
    cases (show Rp K F x _ from h)
    exact .inr ⟨_, rfl, f _ H F (Grow.refl fh) (.int _)⟩
  · cases hg
theorem sim_bool : SimN K (fun xs H Q => (∃ i, xs = [.int i] ∧ Q (.bl (i != 0)) H) ∨ ∃ k, xs = [.bl k] ∧ Q (.bl k) H) gBool := by
  intro xs H F ds d' Q fh hx hg f
  unfold gBool at hg
  split at hg
  · cases hg
    obtain ⟨x, rfl, h⟩ := dq1 hx
    cases (show Rp K F x _ from h)
    exact .inl ⟨_, rfl, f _ H F (Grow.refl fh) (.bl _)⟩
  · cases hg
    obtain ⟨x, rfl, h⟩ := dq1 hx
    cases (show Rp K F x _ from h)
    exact .inr ⟨_, rfl, f _ H F (Grow.refl fh) (.bl _)⟩
  · cases hg
theorem sim_str : SimN K (fun xs H Q => ∃ i, xs = [.int i] ∧ i.natAbs.log2 < 1920 ∧ Q (.str (toString i)) H) gStr := by
  intro xs H F ds d' Q fh hx hg f
  unfold gStr at hg
  split at hg
  · split at hg
    · rename_i hc
      cases hg
      obtain ⟨x, rfl, h⟩ := dq1 hx
      cases (show Rp K F x _ from h)
      exact ⟨_, rfl, of_decide_eq_true hc, f _ H F (Grow.refl fh) (.str _)⟩
    · cases hg
  · cases hg

/-! ### rows of ints, of bools -/
def intsD : List D → Option (List Int)
  | [] => some []
  | .int i :: r => (intsD r).map (i :: ·)
  | _ :: _ => none
def boolsD : List D → Option (List Bool)
  | [] => some []
  | .bool i :: r => (boolsD r).map (i :: ·)
  | _ :: _ => none
theorem intsD_is : ∀ {l : List D} {ns : List Int}, intsD l = some ns → l = ns.map PyData.int
  | [], ns, h => by cases h; rfl
  | d :: r, ns, h => by
    cases d with
    | int i =>
      unfold intsD at h
      cases q : intsD r with
      | none => rw [q] at h; cases h
      | some ms => rw [q] at h; cases h; rw [intsD_is q]; rfl
    | _ => cases h
theorem boolsD_is : ∀ {l : List D} {ns : List Bool}, boolsD l = some ns → l = ns.map PyData.bool
  | [], ns, h => by cases h; rfl
  | d :: r, ns, h => by
    cases d with
    | bool i =>
      unfold boolsD at h
      cases q : boolsD r with
      | none => rw [q] at h; cases h
      | some ms => rw [q] at h; cases h; rw [boolsD_is q]; rfl
    | _ => cases h
theorem intsD_map : ∀ ns : List Int, intsD (ns.map PyData.int) = some ns
  | [] => rfl
  | n :: r => by rw [List.map_cons, intsD, intsD_map r]; rfl
theorem boolsD_map : ∀ ns : List Bool, boolsD (ns.map PyData.bool) = some ns
  | [] => rfl
  | n :: r => by rw [List.map_cons, boolsD, boolsD_map r]; rfl
theorem rpAll_ints {F : Hp} : ∀ {ns : List Int} {vs : List V}, RpAll K F vs (ns.map PyData.int) → vs = ns.map V.int
  | [], _, h => by cases h; rfl
  | n :: r, _, h => by
    cases h with
    | cons h1 h2 => cases h1; rw [rpAll_ints h2]; rfl
theorem rpAll_bools {F : Hp} : ∀ {ns : List Bool} {vs : List V}, RpAll K F vs (ns.map PyData.bool) → vs = ns.map V.bl
  | [], _, h => by cases h; rfl
  | n :: r, _, h => by
    cases h with
    | cons h1 h2 => cases h1; rw [rpAll_bools h2]; rfl
def seqD : D → Option (List D)
  | .list l => some l
  | .tuple l => some l
  | _ => none
def SqX (K : PySem.W.Frag) (H : Hp) (a : Addr) (xs : List V) : Prop := SqL K H a xs ∨ SqT K H a xs
theorem seqD_at {H F : Hp} {x : V} {d : D} {l : List D} (fh : HLe F H) (h : Dq K H F x d) (e : seqD d = some l) : ∃ a vs, x = .ref a ∧ SqX K H a vs ∧ RpAll K F vs l := by
  cases d with
  | list l => cases e; obtain ⟨a, vs, rfl, q, r⟩ := h; exact ⟨a, vs, rfl, .inl (SqL.of q), r⟩
  | tuple l =>
    cases e
    cases (show Rp K F x _ from h) with
    | tup q r => exact ⟨_, _, rfl, .inr (SqT.le fh q), r⟩
  | _ => cases e
def rSumX (K : PySem.W.Frag) : List V → Hp → VK → Prop := fun vs H Q => ∃ (a : Addr) (ns : List Int), vs = [V.ref a] ∧ SqX K H a (ns.map V.int) ∧ Q (.int ns.sum) H
theorem sum_rawT {prog : Program} {w : World} {A : Around} {E : Value → Shared → Prop} {s : Shared} {l : Addr} {its : List Value} {ns : List Int} {Q : Value → Shared → Prop} (hh : A.handled = none) (hl : s.heap.IsTuple l its.toArray) (hi : IntsAre its ns)
    (h : ∀ h' tk t', (∀ b o, s.heap.get? b = some o → h'.get? b = some o) → Q (.int ns.sum t') { s with heap := h', toks := tk }) : wpAny (model prog w) A (call (.builtin "sum") [.ref l]) Q E s := by
  obtain ⟨xs, e⟩ := hi.allInts.items
  have hn : numsOf (intItems xs).toList = ns := by rw [← e]; exact hi.numsOf
  rw [nums_intItems] at hn
  rw [e] at hl
  have hlt : l < s.heap.objs.size := by obtain ⟨_, e, _⟩ := hl; exact Heap.lt_size e
  refine call_sum_walkG (wpAny_pyIter_tuple hl ?_)
  refine ⟨s.heap.objs.size, _, _, _, _, _, numAt xs, rfl, Walks.tuple (A := A.in1) hh _ l (Nat.ne_of_lt hlt) (intItems xs), ⟨⟨_, Heap.get?_push_size _ rfl, rfl, rfl⟩, hl.push _⟩, fun b hb => ?_, (fun _ _ => intItems_at), fun h' tk t' hk => ?_⟩
  · show b < (s.heap.push _).objs.size
    rw [Heap.size_push]
    rcases List.mem_cons.mp hb with rfl | hb
    · exact Nat.lt_succ_self _
    · rcases List.mem_cons.mp hb with rfl | hb
      · exact Nat.lt_succ_of_lt hlt
      · cases hb
  · have := h h' tk t' fun b o e => hk b o (fun hb => absurd (Heap.lt_size e) ((List.mem_singleton.mp hb) ▸ Nat.lt_irrefl _)) (Heap.get?_push_of_some _ e)
    have e2 : preSum (numAt xs) (intItems xs).size = ns.sum := by
      have e3 : (intItems xs).size = xs.size := by simp [intItems]
      rw [e3, preSum_eq, List.take_of_length_le (by simp), hn]
    rw [e2]
    exact this
theorem cr_sumX (hc : X.calm = true) : CallR X (.builtin "sum") (rSumX X.K) := by
  intro pins s σ H vs us Q I r h
  obtain ⟨a, ns, rfl, hs | hs, q⟩ := h
  · exact cr_sum hc pins s σ H _ us Q I r ⟨a, ns, rfl, hs, q⟩
  · obtain ⟨its, rv, hl, _⟩ := I.tuple hs
    rw [Vals.ref1 r]
    exact sum_rawT (I.ok.hd hc) hl rv.ints fun h' tk t' hk => ⟨.int _, H, I.kept hk, ⟨_, rfl⟩, q⟩
def gSum : List D → Option D
  | [d] => match seqD d with
    | some l => (intsD l).map fun ns => .int ns.sum
    | none => none
  | _ => none
theorem sim_sum : SimN K (rSumX K) gSum := by
  intro xs H F ds d' Q fh hx hg f
  unfold gSum at hg
  split at hg
  · rename_i d
    cases q : seqD d with
    | none => simp only [q] at hg; cases hg
    | some l =>
      simp only [q] at hg
      cases q2 : intsD l with
      | none => rw [q2] at hg; cases hg
      | some ns =>
        rw [q2] at hg
        cases hg
        obtain ⟨x, rfl, h⟩ := dq1 hx
        obtain ⟨a, vs, rfl, h1, h2⟩ := seqD_at fh h q
        rw [intsD_is q2] at h2
        rw [rpAll_ints h2] at h1
        exact ⟨a, ns, rfl, h1, f _ H F (Grow.refl fh) (.int _)⟩
  · cases hg
end
end VL

set_option Elab.async false
set_option linter.all false
set_option autoImplicit false
set_option maxRecDepth 100000
namespace VL
open PySem PySem.Spec PyProof.Rows L2
section
variable {K : PySem.W.Frag} {X : Cx}

/-! ### any, all -/
def gAny : List D → Option D
  | [.list l] => (boolsD l).map fun bs => .bool (bs.any id)
  | _ => none
def gAll : List D → Option D
  | [.list l] => (boolsD l).map fun bs => .bool (bs.all id)
  | _ => none
theorem sim_any : SimN K (rAny K) gAny := by
  intro xs H F ds d' Q fh hx hg f
  unfold gAny at hg
  split at hg
  · rename_i l
    cases q2 : boolsD l with
    | none => rw [q2] at hg; cases hg
    | some ns =>
      rw [q2] at hg
      cases hg
      obtain ⟨x, rfl, h⟩ := dq1 hx
      obtain ⟨a, vs, rfl, h1, h2⟩ := h
      rw [boolsD_is q2] at h2
      rw [rpAll_bools h2] at h1
      exact ⟨a, ns, rfl, SqL.of h1, f _ H F (Grow.refl fh) (.bl _)⟩
  · cases hg
theorem sim_all : SimN K (rAll K) gAll := by
  intro xs H F ds d' Q fh hx hg f
  unfold gAll at hg
  split at hg
  · rename_i l
    cases q2 : boolsD l with
    | none => rw [q2] at hg; cases hg
    | some ns =>
      rw [q2] at hg
      cases hg
      obtain ⟨x, rfl, h⟩ := dq1 hx
      obtain ⟨a, vs, rfl, h1, h2⟩ := h
      rw [boolsD_is q2] at h2
      rw [rpAll_bools h2] at h1
      exact ⟨a, ns, rfl, SqL.of h1, f _ H F (Grow.refl fh) (.bl _)⟩
  · cases hg

/-! ### tuple(..), list(..), sorted(..), min, max -/
def gTuple : List D → Option D
  | [.list l] => some (.tuple l)
  | [.tuple l] => some (.tuple l)
  | _ => none
theorem sim_tuple : SimN K (fun xs H Q => ∃ p ys, xs = [.ref p] ∧ ((SqL K H p ys ∧ ∀ l, H l = none → Q (.ref l) (upd H l (.tup ys))) ∨ (SqT K H p ys ∧ Q (.ref p) H))) gTuple := by
  intro xs H F ds d' Q fh hx hg f
  unfold gTuple at hg
  split at hg
  · rename_i l
    cases hg
    obtain ⟨x, rfl, h⟩ := dq1 hx
    obtain ⟨a, vs, rfl, h1, h2⟩ := h
    refine ⟨a, vs, rfl, .inl ⟨SqL.of h1, fun p hp => ?_⟩⟩
    have gr := Grow.new1 (o := .tup vs) fh hp
    exact f _ _ _ gr (.tup (SqT.of upd_same) (RpAll.le gr.ff h2))
  · rename_i l
    cases hg
    obtain ⟨x, rfl, h⟩ := dq1 hx
    cases (show Rp K F x _ from h) with
    | tup q r => exact ⟨_, _, rfl, .inr ⟨SqT.le fh q, f _ H F (Grow.refl fh) (.tup q r)⟩⟩
  · cases hg
/-- a call that makes a new list -/
def SimL (K : PySem.W.Frag) (r : List V → Hp → VK → Prop) (g : List D → Option (List D)) : Prop :=
  ∀ xs H F ds l Q, HLe F H → DqAll K H F xs ds → g ds = some l → (∀ p vs, H p = none → RpAll K F vs l → Q (.ref p) (upd H p (.lst vs))) → r xs H Q
def mOpL (g : List D → Option (List D)) (ms : M (List R)) : M (List D) := mBind ms fun rs ρ => match looks ρ rs with
  | some ds => (match g ds with
    | some l => .ok l ρ
    | none => .bad)
  | none => .bad
def gList : List D → Option (List D)
  | [.list l] => some l
  | [.tuple l] => some l
  | [.dict [(.none, .list l)]] => some l
  | _ => none
theorem sim_list : SimL K (fun xs H Q => ∃ p ys, xs = [.ref p] ∧ (SqL K H p ys ∨ SqT K H p ys) ∧ ∀ l, H l = none → Q (.ref l) (upd H l (.lst ys))) gList := by
  intro xs H F ds l Q fh hx hg f
  unfold gList at hg
  split at hg
  · cases hg
    obtain ⟨x, rfl, h⟩ := dq1 hx
    obtain ⟨a, vs, rfl, h1, h2⟩ := h
    exact ⟨a, vs, rfl, .inl (SqL.of h1), fun p hp => f p vs hp h2⟩
  · cases hg
    obtain ⟨x, rfl, h⟩ := dq1 hx
    cases (show Rp K F x _ from h) with
    | tup q r => exact ⟨_, _, rfl, .inr (SqT.le fh q), fun p hp => f p _ hp r⟩
  · cases hg
    obtain ⟨x, rfl, h⟩ := dq1 hx
    rcases h with h | ⟨a, _, ⟨kvs, _, h⟩ | ⟨kvs, _, h⟩⟩
    · generalize e : PyData.dict [(PyData.none, PyData.list l)] = dd at h
      cases h with
      | frl q r => cases e; exact ⟨_, _, rfl, .inl (SqL.le fh q), fun p hp => f p _ hp r⟩
      | dct q r =>
        cases e
        generalize e2 : [(PyData.none, PyData.list l)] = es at r
        cases r with
        | nil => cases e2
        | @cons k => cases k <;> cases e2
      | dctT q r =>
        cases e
        generalize e2 : [(PyData.none, PyData.list l)] = es at r
        cases r <;> cases e2
      | _ => cases e
    · generalize e2 : [(PyData.none, PyData.list l)] = es at h
      cases h with
      | nil => cases e2
      | @cons k => cases k <;> cases e2
    · generalize e2 : [(PyData.none, PyData.list l)] = es at h
      cases h <;> cases e2
  · cases hg
/-- data that may be set in order -/
def ordB (l : List D) : Bool := (l.all fun x => l.all fun y => PySem.W.alike x y) && PyData.canLayAll0 l && decide (PyData.depthAll l ≤ 60)
def noNo (l : List D) : Bool := l.all fun x => !isNo x
def tups1 (l : List D) : Bool := l.all fun x => match x with | .tuple (_ :: _) => true | _ => false
def noTups (l : List D) : Bool := l.all fun x => match x with | .tuple _ => false | .none => false | _ => true
def sortB (l : List D) : Bool := ordB l && (tups1 l || noTups l)
theorem ordB_is {l : List D} (h : ordB l = true) : PySem.W.AllAlike l ∧ PyData.canLayAll0 l = true ∧ PyData.depthAll l ≤ 60 := by
  unfold ordB at h
  simp only [Bool.and_eq_true, decide_eq_true_eq, List.all_eq_true] at h
  exact ⟨fun x hx y hy => h.1.1 x hx y hy, h.1.2, h.2⟩
def sortD (l : List D) : List D := l.mergeSort (PySem.W.dataLe false id)
def gSorted : List D → Option (List D)
  | [.list l] => if (sortB l && lenOk l) = true then some (sortD l) else none
  | _ => none
def rSortX (K : PySem.W.Frag) : List V → Hp → VK → Prop := fun vs H Q => ∃ (a : Addr) (F : Hp) (xs : List V) (ds : List D), vs = [V.ref a] ∧ SqL K H a xs ∧ HLe F H ∧ RpAll K F xs ds ∧ sortB ds = true ∧ lenOk ds = true ∧
  ∀ ys p, RpAll K F ys (sortD ds) → H p = none → Q (.ref p) (upd H p (.lst ys))
theorem depth_mem {d : D} : ∀ {l : List D}, d ∈ l → d.depth ≤ PyData.depthAll l
  | [], h => by cases h
  | x :: r, h => by
    unfold PyData.depthAll
    rcases List.mem_cons.mp h with rfl | h
    · exact Nat.le_max_left _ _
    · exact Nat.le_trans (depth_mem h) (Nat.le_max_right _ _)
theorem sortable_of {l : List D} (h : sortB l = true) : PySem.W.Sortable l := by
  unfold sortB at h
  rw [Bool.and_eq_true, Bool.or_eq_true] at h
  rcases h.2 with h | h
  · refine .inl fun d hd => ?_
    have := List.all_eq_true.mp h d hd
    cases d with
    | tuple xs =>
      cases xs with
      | nil => cases this
      | cons x r => exact ⟨x, r, rfl⟩
    | _ => cases this
  · refine .inr fun d hd => ?_
    have := List.all_eq_true.mp h d hd
    cases d with
    | tuple xs => cases this
    | none => cases this
    | _ => exact ⟨by simp, by simp⟩
theorem eachIs_of {α β γ : Type} {R : α → β → Prop} {S : α → γ → Prop} {T : γ → β → Prop} (h : ∀ a b c, S a c → T c b → R a b) : ∀ {as : List α} {cs : List γ} {bs : List β}, PySem.W.EachIs S as cs → PySem.W.EachIs T cs bs → PySem.W.EachIs R as bs
  | _, _, _, .nil, .nil => .nil
  | _, _, _, .cons a b, .cons c d => .cons (h _ _ _ a c) (eachIs_of h b d)
theorem vals_each : ∀ {xs : List V} {us : List Value}, Vals xs us → PySem.W.EachIs (fun u x => RelV x u) us xs
  | _, _, .nil => .nil
  | _, _, .cons a b => .cons a (vals_each b)
theorem rp_each {F : Hp} : ∀ {xs : List V} {ds : List D}, RpAll K F xs ds → PySem.W.EachIs (fun x d => Rp K F x d) xs ds
  | _, _, .nil => .nil
  | _, _, .cons a b => .cons a (rp_each b)
theorem each_back {F : Hp} : ∀ {us : List Value} {ds : List D}, PySem.W.EachIs (fun u d => ∃ x, RelV x u ∧ Rp K F x d) us ds → ∃ xs, Vals xs us ∧ RpAll K F xs ds
  | _, _, .nil => ⟨[], .nil, .nil⟩
  | _, _, .cons ⟨x, h1, h2⟩ t => by
    obtain ⟨xs, a, b⟩ := each_back t
    exact ⟨x :: xs, .cons h1 a, .cons h2 b⟩
theorem cr_sortX (hu : X.A.units + 66 < cLine) : CallR X (.builtin "sorted") (rSortX X.K) := by
  intro pins s σ H vs us Q I r h
  obtain ⟨a, F, xs, ds, rfl, hs, fh, rr, hb, hl, q⟩ := h
  obtain ⟨its, rv, pl, hz⟩ := I.list hs
  rw [Vals.ref1 r]
  have hb' := hb
  unfold sortB at hb'
  rw [Bool.and_eq_true] at hb'
  obtain ⟨hal, hcan, hdep⟩ := ordB_is hb'.1
  obtain ⟨as, rd⟩ := Dp.readsAll I ds _ its (RpAll.dp fh rr hcan) rv
  have e1 : PySem.W.EachIs (fun u d => ∃ x, RelV x u ∧ Rp X.K F x d) its ds := eachIs_of (fun u d x h1 h2 => ⟨x, h1, h2⟩) (vals_each rv) (rp_each rr)
  have e2 : PySem.W.EachIs (fun v d => ∃ as, Reads s.heap v (id d) as) its ds := PySem.W.readsAll_each (enc := id) (by rw [List.map_id]; exact rd)
  refine PySem.W.sorted_data (enc := id) (R := fun u d => ∃ x, RelV x u ∧ Rp X.K F x d) pl.isList e1 e2 (by rw [List.map_id]; exact hal) (by rw [List.map_id]; exact sortable_of hb) (lenOk_le hl) (fun b hb => ?_) fun out hlen hout => ?_
  · have := depth_mem hb
    show X.A.units + 2 + b.depth < cLine
    omega
  · obtain ⟨ys, rv2, rr2⟩ := each_back hout
    obtain ⟨ep, he'⟩ := PyProof.Rows.sortedAll_at s.heap its out.toArray
    have hlen2 : ys.length ≤ sizeLine := by rw [rv2.length, hlen]; exact lenOk_le hl
    exact ⟨.ref _, upd H (s.heap.objs.size + 1) (.lst ys), I.laid (t' := s.toks) (fun _ _ => PyProof.Rows.sortedAll_old) (Nat.le_succ _) ⟨hlen2, out, ep, rv2, he'⟩, rfl, q _ _ rr2 (I.hok.fresh (Nat.le_succ _))⟩
theorem sim_sorted : SimL K (rSortX K) gSorted := by
  intro xs H F ds l Q fh hx hg f
  unfold gSorted at hg
  split at hg
  · split at hg
    · rename_i hc
      cases hg
      obtain ⟨x, rfl, h⟩ := dq1 hx
      obtain ⟨a, vs, rfl, h1, h2⟩ := h
      rw [Bool.and_eq_true] at hc
      exact ⟨a, F, vs, _, rfl, SqL.of h1, fh, h2, hc.1, hc.2, fun ys p r hp => f p ys hp r⟩
    · cases hg
  · cases hg
/-- min, max of a row of data -/
def bestOk (l : List D) : Bool := ordB l && noNo l
theorem alikeAll_of {l : List D} (h : bestOk l = true) : PySem.W.AlikeAll l ∧ PyData.canLayAll0 l = true ∧ PyData.depthAll l ≤ 60 := by
  unfold bestOk at h
  rw [Bool.and_eq_true] at h
  obtain ⟨h1, h2, h3⟩ := ordB_is h.1
  refine ⟨⟨fun x hx y hy => h1 x hx y hy, fun x hx e => ?_⟩, h2, h3⟩
  have := List.all_eq_true.mp h.2 x hx
  subst e
  cases this
def rBest (K : PySem.W.Frag) (best : D → List D → D) : List V → Hp → VK → Prop := fun vs H Q => ∃ (a : Addr) (F : Hp) (xs : List V) (d : D) (ds : List D), vs = [V.ref a] ∧ SqX K H a xs ∧ HLe F H ∧ RpAll K F xs (d :: ds) ∧ bestOk (d :: ds) = true ∧
  ∀ v, Rp K F v (best d ds) → Q v H
theorem canLay_mem {d : D} : ∀ {l : List D}, PyData.canLayAll0 l = true → d ∈ l → d.canLay0 = true
  | [], _, h => by cases h
  | x :: r, e, h => by
    rw [PyData.canLayAll0, Bool.and_eq_true] at e
    rcases List.mem_cons.mp h with rfl | h
    · exact e.1
    · exact canLay_mem e.2 h
theorem best_end {pins : List (Addr × Obj)} {s : Shared} {σ : L2.St} {H F : Hp} {xs : List V} {d e : D} {ds : List D} {its : List Value} {Q : VK} {as : List Addr} (I : Inv X pins σ H s) (fh : HLe F H) (rv : Vals xs its) (rr : RpAll X.K F xs (d :: ds)) (hcan : PyData.canLayAll0 (d :: ds) = true) (rd : ReadsAll s.heap its (d :: ds) as)
    (q : ∀ v, Rp X.K F v e → Q v H) {i : Nat} {v : Value} {h' : Heap} {tk : Nat} {bs : List Addr} (hv : its.toArray[i]? = some v) (r : Reads h' v e bs) (hk : ∀ b o, s.heap.get? b = some o → h'.get? b = some o) : EP X pins σ Q v { s with heap := h', toks := tk } := by
  have hv' : its[i]? = some v := by rw [← List.getElem?_toArray]; exact hv
  obtain ⟨x, hx, rx⟩ : ∃ x, xs[i]? = some x ∧ RelV x v := by
    have go : ∀ {xs : List V} {us : List Value} {i : Nat} {v : Value}, Vals xs us → us[i]? = some v → ∃ x, xs[i]? = some x ∧ RelV x v := by
      intro xs us i v r h
      induction r generalizing i with
      | nil => simp at h
      | cons a b ih =>
        cases i with
        | zero => simp at h; subst h; exact ⟨_, rfl, a⟩
        | succ i => simpa using ih (by simpa using h)
    exact go rv hv'
  obtain ⟨y, hy, ry⟩ := rr.getV hx
  have e1 : y = e := by
    obtain ⟨cs, r1⟩ := Dp.reads I y x v (Rp.dp fh ry (canLay_mem hcan (List.mem_of_getElem? hy))) rx
    exact PySem.SeqAt.Reads.unique y e v cs bs (canLay_mem hcan (List.mem_of_getElem? hy)) (PyProof.Rows.Reads.keeps hk r1) r
  subst e1
  exact ⟨x, H, I.kept hk, rx, q x ry⟩
theorem cr_best (hc : X.calm = true) (hu : X.A.units + 66 < cLine) {id : String} {best : D → List D → D}
    (hL : ∀ {s : Shared} {l : Addr} {vs : Array Value} {x : PyData} {xs : List PyData} {as : List Addr} {Q : Value → Shared → Prop}, X.A.handled = none → s.heap.IsList l vs → ReadsAll s.heap vs.toList (x :: xs) as → PySem.W.AlikeAll (x :: xs) → X.A.units + 1 + PyData.depthAll (x :: xs) < cLine →
      (∀ (i : Nat) v h' tk bs, vs[i]? = some v → Reads h' v (best x xs) bs → (∀ b o, s.heap.get? b = some o → h'.get? b = some o) → Q v { s with heap := h', toks := tk }) → wpAny (model X.prog X.w) X.A (call (.builtin id) [.ref l]) Q X.xe s)
    (hT : ∀ {s : Shared} {l : Addr} {vs : Array Value} {x : PyData} {xs : List PyData} {as : List Addr} {Q : Value → Shared → Prop}, X.A.handled = none → s.heap.IsTuple l vs → ReadsAll s.heap vs.toList (x :: xs) as → PySem.W.AlikeAll (x :: xs) → X.A.units + 1 + PyData.depthAll (x :: xs) < cLine →
      (∀ (i : Nat) v h' tk bs, vs[i]? = some v → Reads h' v (best x xs) bs → (∀ b o, s.heap.get? b = some o → h'.get? b = some o) → Q v { s with heap := h', toks := tk }) → wpAny (model X.prog X.w) X.A (call (.builtin id) [.ref l]) Q X.xe s) :
    CallR X (.builtin id) (rBest X.K best) := by
  intro pins s σ H vs us Q I r h
  obtain ⟨a, F, xs, d, ds, rfl, hs, fh, rr, hb, q⟩ := h
  rw [Vals.ref1 r]
  obtain ⟨hal, hcan, hdep⟩ := alikeAll_of hb
  rcases hs with hs | hs
  · obtain ⟨its, rv, pl, hz⟩ := I.list hs
    obtain ⟨as, rd⟩ := Dp.readsAll I (d :: ds) _ its (RpAll.dp fh rr hcan) rv
    exact hL (I.ok.hd hc) pl.isList rd hal (by omega) fun i v h' tk bs hv r hk => best_end I fh rv rr hcan rd q hv r hk
  · obtain ⟨its, rv, pl, hz⟩ := I.tuple hs
    obtain ⟨as, rd⟩ := Dp.readsAll I (d :: ds) _ its (RpAll.dp fh rr hcan) rv
    exact hT (I.ok.hd hc) pl rd hal (by omega) fun i v h' tk bs hv r hk => best_end I fh rv rr hcan rd q hv r hk
def gBest (best : D → List D → D) : List D → Option D
  | [e] => (match seqD e with
    | some (d :: ds) => if bestOk (d :: ds) = true then some (best d ds) else none
    | _ => none)
  | _ => none
theorem sim_best {best : D → List D → D} : SimN K (rBest K best) (gBest best) := by
  intro xs H F ds d' Q fh hx hg f
  unfold gBest at hg
  split at hg
  · rename_i e
    split at hg
    · rename_i d l q
      split at hg
      · rename_i hc
        cases hg
        obtain ⟨x, rfl, h⟩ := dq1 hx
        obtain ⟨a, vs, rfl, h1, h2⟩ := seqD_at fh h q
        exact ⟨a, F, vs, d, l, rfl, h1, fh, h2, hc, fun v rv => f v H F (Grow.refl fh) rv⟩
      · cases hg
    · cases hg
  · cases hg
def rMinV (K : PySem.W.Frag) : List V → Hp → VK → Prop := fun xs H Q => (∃ i j, xs = [.int i, .int j] ∧ Q (.int (if j < i then j else i)) H) ∨ rBest K PySem.W.minD xs H Q
def rMaxV (K : PySem.W.Frag) : List V → Hp → VK → Prop := fun xs H Q => (∃ i j, xs = [.int i, .int j] ∧ Q (.int (if j > i then j else i)) H) ∨ rBest K PySem.W.maxD xs H Q
theorem cr_minV (hc : X.calm = true) (hu : X.A.units + 66 < cLine) : CallR X (.builtin "min") (rMinV X.K) := (call_min2 hc).or (cr_best hc hu PySem.W.min_list_data PySem.W.min_tuple_data)
theorem cr_maxV (hc : X.calm = true) (hu : X.A.units + 66 < cLine) : CallR X (.builtin "max") (rMaxV X.K) := (call_max2 hc).or (cr_best hc hu PySem.W.max_list_data PySem.W.max_tuple_data)
def gMin : List D → Option D
  | [.int i, .int j] => some (.int (if j < i then j else i))
  | ds => gBest PySem.W.minD ds
def gMax : List D → Option D
  | [.int i, .int j] => some (.int (if j > i then j else i))
  | ds => gBest PySem.W.maxD ds
theorem sim_min : SimN K (rMinV K) gMin := by
  intro xs H F ds d' Q fh hx hg f
  unfold gMin at hg
  split at hg
  · cases hg
    obtain ⟨x, y, rfl, h1, h2⟩ := dq2 hx
    cases (show Rp K F x _ from h1)
    cases (show Rp K F y _ from h2)
    exact .inl ⟨_, _, rfl, f _ H F (Grow.refl fh) (.int _)⟩
  · exact .inr (sim_best xs H F ds d' Q fh hx hg f)
theorem sim_max : SimN K (rMaxV K) gMax := by
  intro xs H F ds d' Q fh hx hg f
  unfold gMax at hg
  split at hg
  · cases hg
    obtain ⟨x, y, rfl, h1, h2⟩ := dq2 hx
    cases (show Rp K F x _ from h1)
    cases (show Rp K F y _ from h2)
    exact .inl ⟨_, _, rfl, f _ H F (Grow.refl fh) (.int _)⟩
  · exact .inr (sim_best xs H F ds d' Q fh hx hg f)
end
section
variable {X : Cx} {c : Vx} {G : Hp} {ρ : Rho} {σ : L2.St} {H F F1 : Hp}
variable {a b e : Expr} {es rest : List Expr} {p pos : Pos} {m n : M R} {st : Stmt} {ms : M (List R)}
theorem opL_end {g : List D → Option (List D)} {r : List V → Hp → VK → Prop} {Q : VK} {xs : List V} {us : List R} (sim : SimL c.K r g) (k : Ok c G ρ σ H F) (hr : RepRs c σ ρ F us xs)
    (h : WnN c G σ F Q (match looks ρ us with | some ds => (match g ds with | some l => .ok l ρ | none => .bad) | none => .bad)) : r xs H Q := by
  cases q : looks ρ us with
  | none => simp only [q] at h; exact h.elim
  | some ds =>
    simp only [q] at h
    cases q2 : g ds with
    | none => simp only [q2] at h; exact h.elim
    | some l =>
      simp only [q2] at h
      exact sim xs H F ds l Q k.fh (looks_dq k hr q) q2 fun p vs hp rv => h p vs H F (Ext.refl G F) k hp rv
theorem opL_of {g : List D → Option (List D)} {r : List V → Hp → VK → Prop} (sim : SimL c.K r g) {Q : VK} (h : tN c (mOpL g ms) σ H Q) : tA c ms σ H fun xs H1 => r xs H1 Q := by
  obtain ⟨ρ, F, G, k, h⟩ := h
  refine ⟨ρ, F, G, k, ?_⟩
  unfold mOpL mBind at h
  cases q : ms ρ with
  | bad => rw [q] at h; exact h
  | exc x ρ' => rw [q] at h; exact h
  | ok rs ρ' =>
    rw [q] at h
    intro xs H' F' e k' rr
    refine opL_end sim k' rr ?_
    have h : WnN c G σ F Q (match looks ρ' rs with | some ds => (match g ds with | some l => .ok l ρ' | none => .bad) | none => .bad) := h
    exact WnN.ext h e
theorem vn_callB {x : Str} {id : String} {r : List V → Hp → VK → Prop} {g : List D → Option (List D)} (hc : CallR X (.builtin id) r) (sim : SimL c.K r g) (hg : Gl X x) (hm : X.mg x = none) (hv : bootBuiltins x = some (.builtin id)) (ha : PA X (e :: es) (tA c ms)) (hn : x ≠ "__name__" := by decide) (hdb : (x == ("__debug__" : Str)) = false := by decide)
    (he : starEach (e :: es) X.env = (false, eval e X.env) :: starEach es X.env := by rfl) (hpl : (backTo pos (starEach es X.env)).any (·.1) = false := by rfl) : PE X (.Call (.Name x p) (e :: es) [] pos) (tN c (mOpL g ms)) :=
  pe_weak (pe_callB hc hg hm hv ha hn hdb he hpl) fun σ H Q h => opL_of sim h
theorem vn_callTy {x : Str} {T : String} {r : List V → Hp → VK → Prop} {g : List D → Option (List D)} (hc : CallR X (.type T) r) (sim : SimL c.K r g) (hg : Gl X x) (hm : X.mg x = none) (hv : bootBuiltins x = some (.type T)) (ha : PA X (e :: es) (tA c ms)) (hn : x ≠ "__name__" := by decide) (hdb : (x == ("__debug__" : Str)) = false := by decide)
    (he : starEach (e :: es) X.env = (false, eval e X.env) :: starEach es X.env := by rfl) (hpl : (backTo pos (starEach es X.env)).any (·.1) = false := by rfl) : PE X (.Call (.Name x p) (e :: es) [] pos) (tN c (mOpL g ms)) :=
  pe_weak (pe_callTy hc hg hm hv ha hn hdb he hpl) fun σ H Q h => opL_of sim h

/-! ### constants of the module -/
structure GC (K : PySem.W.Frag) (mg : Str → Option Value) (x : Str) (d : D) : Prop where
  get : ∃ v u, mg x = some u ∧ RelV v u ∧ ∀ F, Rp K F v d
theorem ve_glob {x : Str} {d : D} (hK : X.K = c.K) (hg : Gl X x) (h : GC X.K X.mg x d) (hd : (x == ("__debug__" : Str)) = false := by decide) : PE X (.Name x pos) (tM c (mConst d)) := by
  obtain ⟨v, u, h1, h2, h3⟩ := h.get
  exact ve_const (pe_glob hg h1 h2 hd) (by rw [← hK]; exact h3)

/-! ### isinstance -/
def tyD : D → String
  | .none => "NoneType"
  | .bool _ => "bool"
  | .int _ => "int"
  | .str _ => "str"
  | .list _ => "list"
  | .tuple _ => "tuple"
  | .dict _ => ""
def isiB (a T : String) : Option Bool := if a = "" then none else some (a == T || (a == "bool" && T == "int"))
def gIsi (T : String) : D → Option D := fun d => (isiB (tyD d) T).map fun b => .bool b
theorem kit_isi {a T : String} {b : Bool} (ha : a ∈ ["NoneType", "bool", "int", "str", "list", "tuple"]) (hT : T ∈ ["bool", "int", "str", "list", "tuple", "dict"]) (h : isiB a T = some b) : kitB a T = some b := by
  have all : ∀ a ∈ ["NoneType", "bool", "int", "str", "list", "tuple"], ∀ T ∈ ["bool", "int", "str", "list", "tuple", "dict"], kitB a T = isiB a T := by decide +kernel
  rw [all a ha T hT, h]
theorem tyX_of {K : PySem.W.Frag} {x : V} {d : D} {b : Bool} {T : String} (fh : HLe F H) (h : Dq K H F x d) (e : isiB (tyD d) T = some b) : TyX K H x (.type (tyD d)) := by
  cases d with
  | none => cases (show Rp K F x _ from h); exact .base .non
  | bool b => cases (show Rp K F x _ from h); exact .base (.bl _)
  | int b => cases (show Rp K F x _ from h); exact .base (.int _)
  | str b => cases (show Rp K F x _ from h); exact .base (.str _)
  | list l => obtain ⟨a, vs, rfl, q, r⟩ := h; exact .base (.lst q)
  | tuple l =>
    cases (show Rp K F x _ from h) with
    | tup q r =>
      rcases SqT.le fh q with (q | ⟨o, q⟩) | ⟨o, its, n, h1, h2, _⟩
      · exact .base (.tup q)
      · exact .fTuple q
      · exact .kTuple h1 h2
  | dict l => cases e
theorem ve_isi {T : Str} {T' : String} {p2 : Pos} (hK : X.K = c.K) (hg : Gl X "isinstance") (hm : X.mg "isinstance" = none) (hg2 : Gl X T) (hm2 : X.mg T = none) (hv : bootBuiltins T = some (.type T')) (hT : T' ∈ ["bool", "int", "str", "list", "tuple", "dict"]) (ha : PE X a (tM c m)) (hn : T ≠ "__name__" := by decide) (hdb : (T == ("__debug__" : Str)) = false := by decide)
    (he : starEach [a, .Name T p2] X.env = (false, eval a X.env) :: starEach [.Name T p2] X.env := by rfl) (he2 : starEach [.Name T p2] X.env = (false, eval (.Name T p2) X.env) :: starEach [] X.env := by rfl) (hpl : (backTo pos (starEach [.Name T p2] X.env)).any (·.1) = false := by rfl) :
    PE X (.Call (.Name "isinstance" p) [a, .Name T p2] [] pos) (tM c (mOp1 (gIsi T') m)) :=
  pe_weak (pe_callB call_isi hg hm (by rfl) (pa_cons ha (pa_cons (pe_bltn hg2 hm2 hv (v := .ty T') rfl hn hdb) pa_nil he2) he) (by decide) (by decide) he hpl) fun σ H Q h => by
    obtain ⟨ρ, F, G, k, h⟩ := one_of h
    refine ⟨ρ, F, G, k, h.imp fun x H1 ⟨ρ1, F1, G1, r, k1, r1, h1⟩ => ?_⟩
    cases q : look ρ1 r with
    | none => simp only [q] at h1; exact h1.elim
    | some d =>
      simp only [q] at h1
      obtain ⟨d', e, f⟩ := fin1_ok h1 k1
      unfold gIsi at e
      cases q2 : isiB (tyD d) T' with
      | none => rw [q2] at e; cases e
      | some b =>
        rw [q2] at e
        cases e
        have ty := tyX_of k1.fh (look_dq k1 r1 q) q2
        rw [← hK] at ty
        refine ⟨x, .ty T', .type (tyD d), .type T', b, rfl, .ty T', ty, kit_ty (kit_isi ?_ hT q2), f _ H1 F1 (Grow.refl k1.fh) (.bl _)⟩
        cases d <;> first | (simp [tyD]; done) | (exfalso; cases q2)

end
end VL

set_option Elab.async false
set_option linter.all false
set_option autoImplicit false
set_option maxRecDepth 100000
namespace VL
open PySem PySem.Spec PyProof.Rows L2

/-! ### an own thing changed -/
section
variable {X : Cx} {c : Vx} {G : Hp} {ρ : Rho} {σ : L2.St} {H F F1 : Hp}
variable {a b e o : Expr} {es rest : List Expr} {p pos apos cpos : Pos} {m n : M R} {st : Stmt} {ms : M (List R)} {name : Str} {T id : String}
def SV.box : SV → Option Box
  | .lst b => some b
  | .iol b => some b
  | _ => none
def SV.with (s : SV) (b : Box) : SV := match s with
  | .iol _ => .iol b
  | _ => .lst b
theorem Ok.mut {i : Nat} {a : Addr} {u' : HO} {s : SV} {b b' : Box} (k : Ok c G ρ σ H F) (q : ρ[i]? = some s) (hb : s.box = some b) (hs : σ[i]? = some (some (.ref a))) (r : BoxIs c.K F u' b') : Ok c G (ρ.set i (s.with b')) σ (upd H a u') F := by
  have ho : s.owned = true := by cases s <;> first | rfl | cases hb
  have hat : OwnAt ρ σ i a := ⟨⟨_, q, ho⟩, hs⟩
  obtain ⟨a', l, _, z1, ⟨nF, nG, u, hu, _⟩, _⟩ := k.own q ho
  rw [hs] at z1; cases z1
  have hF : ∀ b, F b ≠ none → b ≠ a := fun b h e => h (e ▸ nF)
  refine ⟨fun b o e => ?_, fun b o e => ?_, by simp [k.len], fun j t e => ?_, fun j m b ⟨⟨s1, e1, o1⟩, h1⟩ ⟨⟨s2, e2, o2⟩, h2⟩ => ?_, fun j b e => ?_⟩
  · rw [upd_ne (fun z => by rw [z, nF] at e; cases e)]; exact k.fh b o e
  · rw [upd_ne (fun z => by rw [z, nG] at e; cases e)]; exact k.gh b o e
  · rcases set_get e with ⟨rfl, rfl, hl⟩ | ⟨hj, e⟩
    · have z := k.slot j s q
      cases s with
      | no => cases hb
      | val d => cases hb
      | lst l => obtain ⟨a', z1, z2, _⟩ := z; rw [hs] at z1; cases z1; exact ⟨a, hs, z2, nF, nG, u', upd_same, r⟩
      | iol l => obtain ⟨a', z1, z2, _⟩ := z; rw [hs] at z1; cases z1; exact ⟨a, hs, z2, nF, nG, u', upd_same, r⟩
    · have z := k.slot j t e
      have ne : ∀ b, OwnAt ρ σ j b → b ≠ a := fun b hb eb => hj (k.apart j i a (eb ▸ hb) hat)
      cases t with
      | no => trivial
      | val d => exact z
      | lst l' => obtain ⟨b, z1, z2, z3, z4, us, z5, z6⟩ := z; exact ⟨b, z1, z2, z3, z4, us, by rw [upd_ne (ne b ⟨⟨_, e, rfl⟩, z1⟩)]; exact z5, z6⟩
      | iol l' => obtain ⟨b, z1, z2, z3, z4, us, z5, z6⟩ := z; exact ⟨b, z1, z2, z3, z4, us, by rw [upd_ne (ne b ⟨⟨_, e, rfl⟩, z1⟩)]; exact z5, z6⟩
  · have back : ∀ {j : Nat} {s1 : SV}, (ρ.set i (s.with b'))[j]? = some s1 → s1.owned = true → ∃ s2 : SV, ρ[j]? = some s2 ∧ s2.owned = true := fun {j s1} e o => by
      rcases set_get e with ⟨rfl, rfl, hl⟩ | ⟨hj, e⟩
      · exact ⟨s, q, ho⟩
      · exact ⟨s1, e, o⟩
    obtain ⟨t1, y1, y2⟩ := back e1 o1
    obtain ⟨t2, y3, y4⟩ := back e2 o2
    exact k.apart j m b ⟨⟨t1, y1, y2⟩, h1⟩ ⟨⟨t2, y3, y4⟩, h2⟩
  · obtain ⟨l', z⟩ := k.ioc j b e
    by_cases hj : j = i
    · subst hj
      rw [q] at z
      cases z
      have hl : j < ρ.length := (List.getElem?_eq_some_iff.mp q).1
      exact ⟨b', by rw [List.getElem?_set_self hl]; rfl⟩
    · exact ⟨l', by rw [List.getElem?_set_ne (Ne.symm hj)]; exact z⟩
/-- xs.m(e, ..) of an own thing -/
def tyBox (T : String) : Box → Bool
  | .li _ => T == "list"
  | _ => T == "dict"
def mOwn {α : Type} (T : String) (i : Nat) (m : M α) : M α := fun ρ => match ρ[i]? with
  | some s => (match s.box with
    | some b => if tyBox T b = true then m ρ else .bad
    | none => .bad)
  | none => .bad
def mChg (i : Nat) (g : Box → List D → Option (Box × D)) (ds : List D) : M R := fun ρ => match ρ[i]? with
  | some s => (match s.box with
    | some b => (match g b ds with
      | some (b', d) => .ok (.v d) (ρ.set i (s.with b'))
      | none => .bad)
    | none => .bad)
  | none => .bad
def mMeth (T : String) (i : Nat) (g : Box → List D → Option (Box × D)) (ms : M (List R)) : M R := mOwn T i (mBind (mFrzs ms) (mChg i g))
def SimM (K : PySem.W.Frag) (r : V → List V → Hp → VK → Prop) (g : Box → List D → Option (Box × D)) : Prop :=
  ∀ a u b xs ds b' d H F Q, HLe F H → F a = none → H a = some u → BoxIs K F u b → RpAll K F xs ds → g b ds = some (b', d) → (∀ v u', BoxIs K F u' b' → Rp K F v d → Q v (upd H a u')) → r (.ref a) xs H Q
theorem box_ty {K : PySem.W.Frag} {a : Addr} {u : HO} {b : Box} (h : H a = some u) (r : BoxIs K F u b) (e : tyBox T b = true) : tyV K T (.ref a) H := by
  cases b with
  | li l =>
    obtain ⟨vs, rfl, r⟩ := r
    exact .inl ⟨eq_of_beq e, vs, SqL.of h⟩
  | dk l =>
    obtain ⟨vs, rfl, r⟩ := r
    exact .inr (.inr (.inl ⟨eq_of_beq e, .inl ⟨vs, h⟩⟩))
  | dt l =>
    obtain ⟨vs, rfl, r⟩ := r
    exact .inr (.inr (.inl ⟨eq_of_beq e, .inr ⟨vs, h⟩⟩))
variable {α β : Type} {rep : Rho → Hp → α → β → Prop}
theorem own_of {i : Nat} {Q : β → Hp → Prop} {m : M α} (h : tX c (mOwn T i m) rep σ H Q) : tVar i σ H fun x H1 => ∃ a ρ F G, x = .ref a ∧ tyV c.K T x H1 ∧ σ[i]? = some (some (.ref a)) ∧ Ok c G ρ σ H1 F ∧ Wn c G σ F rep Q (m ρ) := by
  obtain ⟨ρ, F, G, k, h⟩ := h
  unfold mOwn at h
  cases q : ρ[i]? with
  | none => simp only [q] at h; exact h.elim
  | some s =>
    simp only [q] at h
    cases q2 : s.box with
    | none => simp only [q2] at h; exact h.elim
    | some b =>
      simp only [q2] at h
      by_cases hT : tyBox T b = true
      · rw [if_pos hT] at h
        have ho : s.owned = true := by cases s <;> first | rfl | cases q2
        obtain ⟨a, l, hl, z1, ⟨_, _, u, hu, hr⟩, _⟩ := k.own q ho
        have el : l = b := by
          rcases hl with rfl | rfl
          · exact Option.some.inj q2
          · exact Option.some.inj q2
        subst el
        exact ⟨_, z1, a, ρ, F, G, rfl, box_ty hu hr hT, z1, k, h⟩
      · rw [if_neg hT] at h; exact h.elim
theorem chg_end {i : Nat} {a : Addr} {g : Box → List D → Option (Box × D)} {r : V → List V → Hp → VK → Prop} {Q : VK} {xs : List V} {ds : List D} (sim : SimM c.K r g) (k : Ok c G ρ σ H F) (hs : σ[i]? = some (some (.ref a))) (rr : RpAll c.K F xs ds) (h : Wn c G σ F (RepR c σ) Q (mChg i g ds ρ)) : r (.ref a) xs H Q := by
  unfold mChg at h
  cases q1 : ρ[i]? with
  | none => simp only [q1] at h; exact h.elim
  | some s1 =>
    simp only [q1] at h
    cases q2 : s1.box with
    | none => simp only [q2] at h; exact h.elim
    | some b =>
      simp only [q2] at h
      cases q3 : g b ds with
      | none => simp only [q3] at h; exact h.elim
      | some z =>
        obtain ⟨b', d⟩ := z
        simp only [q3] at h
        have ho1 : s1.owned = true := by cases s1 <;> first | rfl | cases q2
        obtain ⟨a', l, hl, z1, ⟨nF, nG, u, hu, hr⟩, _⟩ := k.own q1 ho1
        rw [hs] at z1; cases z1
        have el : l = b := by
          rcases hl with rfl | rfl
          · exact Option.some.inj q2
          · exact Option.some.inj q2
        subst el
        exact sim a u l xs ds b' d H F Q k.fh nF hu hr rr q3 fun v u' hr' rv => h v _ F (Ext.refl G F) (k.mut q1 q2 hs hr') rv
theorem ve_meth {i : Nat} {g : Box → List D → Option (Box × D)} {r : V → List V → Hp → VK → Prop} (hK : X.K = c.K) (pa : PlainAttrs T) (slot : Slot T name id) (hty : typeOf (.builtin id) = pure (.type "method_descriptor")) (hm : MtR X id r) (sim : SimM c.K r g)
    (hN : PE X o (tVar i)) (ha : PA X (e :: es) (tA c ms))
    (hbase : attributeBase o name X.env (eval o X.env) = eval o X.env := by rfl)
    (hfew : ((backTo cpos (starEach (e :: es) X.env)).all (fun x => !x.1) && (backToKw cpos (keywordEach [] X.env)).all (fun x => x.1.isSome)
      && decide ((e :: es).length + ([] : List Keyword).length + (if ([] : List Keyword).isEmpty then 0 else 1) < 30)) = true := by rfl)
    (hline : (apos.endLine == cpos.line) = true := by rfl) (hs : starEach (e :: es) X.env = (false, eval e X.env) :: starEach es X.env := by rfl) (hplain : (backTo cpos (starEach es X.env)).any (·.1) = false := by rfl) :
    PE X (.Call (.Attribute o name apos) (e :: es) [] cpos) (tM c (mMeth T i g ms)) :=
  pe_weak (pe_bm pa slot hty hm hN (va_frz ha) hbase hfew hline hs hplain) fun σ H Q h => by
    obtain ⟨x, hx, a, ρ, F, G, rfl, ty, hs, k, h⟩ := own_of h
    refine ⟨_, hx, by rw [hK]; exact ty, ρ, F, G, k, (Wn.bind (rep := RepDs c) h).imp fun xs H1 ⟨ρ1, F1, ds, e1, k1, r1, h1⟩ => chg_end sim k1 hs r1 h1⟩
theorem ve_meth0 {i : Nat} {g : Box → List D → Option (Box × D)} {r : V → List V → Hp → VK → Prop} (hK : X.K = c.K) (pa : PlainAttrs T) (slot : Slot T name id) (hty : typeOf (.builtin id) = pure (.type "method_descriptor")) (hm : MtR X id r) (sim : SimM c.K r g)
    (hN : PE X o (tVar i)) (hbase : attributeBase o name X.env (eval o X.env) = eval o X.env := by rfl) (hline : (apos.endLine == cpos.line) = true := by rfl) :
    PE X (.Call (.Attribute o name apos) [] [] cpos) (tM c (mMeth T i g mNil)) :=
  pe_weak (pe_bm0 pa slot hty hm hN hbase hline) fun σ H Q h => by
    obtain ⟨x, hx, a, ρ, F, G, rfl, ty, hs, k, h⟩ := own_of h
    exact ⟨_, hx, by rw [hK]; exact ty, chg_end (xs := []) (ds := []) sim k hs .nil h⟩
def gAppend : Box → List D → Option (Box × D)
  | .li l, [d] => if decide (l.length < 16777216) = true then some (.li (l ++ [d]), .none) else none
  | _, _ => none
theorem sim_append {K : PySem.W.Frag} : SimM K rAppend gAppend := by
  intro a u b xs ds b' d H F Q fh nF hu hr rr hg f
  unfold gAppend at hg
  split at hg
  · split at hg
    · rename_i hc
      cases hg
      obtain ⟨vs, rfl, r⟩ := hr
      cases rr with
      | cons r1 r2 =>
        cases r2
        exact ⟨a, vs, _, rfl, rfl, hu, by rw [r.length, sizeLine_eq]; exact of_decide_eq_true hc, f _ _ ⟨_, rfl, r.append (.cons r1 .nil)⟩ .non⟩
    · cases hg
  · cases hg
def gExtend : Box → List D → Option (Box × D)
  | .li l, [.list k] => if decide (l.length + k.length ≤ 16777216) = true then some (.li (l ++ k), .none) else none
  | _, _ => none
theorem sim_extend {K : PySem.W.Frag} : SimM K rExtend gExtend := by
  intro a u b xs ds b' d H F Q fh nF hu hr rr hg f
  unfold gExtend at hg
  split at hg
  · split at hg
    · rename_i hc
      cases hg
      obtain ⟨vs, rfl, r⟩ := hr
      cases rr with
      | cons r1 r2 =>
        cases r2
        cases r1 with
        | lst q r1 => exact ⟨a, _, vs, _, rfl, rfl, hu, fh _ _ q, by rw [r.length, r1.length, sizeLine_eq]; exact of_decide_eq_true hc, f _ _ ⟨_, rfl, r.append r1⟩ .non⟩
    · cases hg
  · cases hg
def gPop : Box → List D → Option (Box × D)
  | .li l, [] => (l[l.length - 1]?).map fun d => (.li l.dropLast, d)
  | _, _ => none
theorem sim_pop {K : PySem.W.Frag} : SimM K rPop gPop := by
  intro a u b xs ds b' d H F Q fh nF hu hr rr hg f
  unfold gPop at hg
  split at hg
  · rename_i l
    cases q : l[l.length - 1]? with
    | none => rw [q] at hg; cases hg
    | some y =>
      rw [q] at hg
      cases hg
      obtain ⟨vs, rfl, r⟩ := hr
      cases rr
      obtain ⟨v, h1, h2⟩ := r.get q
      exact ⟨a, vs, v, rfl, rfl, hu, by rw [r.length]; exact h1, f _ _ ⟨_, rfl, r.dropLast⟩ h2⟩
  · cases hg

/-! ### xs[i] = e, xs[i] op= e -/
def gSetI (b : Box) (d e : D) : Option Box := match b, d with
  | .li l, .int k => (ixN l.length k).map fun j => .li (l.set j e)
  | _, _ => none
def sSetI (T : String) (i : Nat) (g : Box → D → D → Option Box) (mi mv : M R) : MS := sBind (mFrz mv) fun d => sBind (mOwn T i mi) fun r ρ => match look ρ r, ρ[i]? with
  | some e, some s => (match s.box with
    | some b => (match g b e d with
      | some b' => .nx (ρ.set i (s.with b'))
      | none => .bad)
    | none => .bad)
  | _, _ => .bad
def SimI (K : PySem.W.Frag) (t : TSet) (g : Box → D → D → Option Box) : Prop :=
  ∀ a u b x v d e b' H F Q, HLe F H → F a = none → H a = some u → BoxIs K F u b → Dq K H F x d → Rp K F v e → g b d e = some b' → (∀ u', BoxIs K F u' b' → Q (upd H a u')) → t (.ref a) x v H Q
theorem sim_setI {K : PySem.W.Frag} : SimI K rSetL gSetI := by
  intro a u b x v d e b' H F Q fh nF hu hr hx hv hg f
  unfold gSetI at hg
  split at hg
  · rename_i l k
    cases q : ixN l.length k with
    | none => rw [q] at hg; cases hg
    | some j =>
      rw [q] at hg
      cases hg
      obtain ⟨vs, rfl, r⟩ := hr
      cases (show Rp K F x _ from hx)
      exact ⟨a, vs, k, j, rfl, rfl, hu, by rw [r.length]; exact q, f _ ⟨_, rfl, r.set j hv⟩⟩
  · cases hg
theorem vs_setI {i : Nat} {t : TSet} {g : Box → D → D → Option Box} {mi mv : M R} (sim : SimI c.K t g) (h : PS X st (tAsg (tD c (mFrz mv)) (L2.gSub (tVar i) (tM c mi) t))) : PS X st (tS c (sSetI T i g mi mv)) :=
  ps_weak h fun D σ H ⟨ρ, F, G, k, h⟩ => by
    refine ⟨ρ, F, G, k, (Sn.bind (rep := RepD c) h).imp fun v H1 ⟨ρ1, F1, d, e1, k1, rv, h1⟩ => ?_⟩
    have h2 : tX c (mOwn T i mi) (RepR c σ) σ H1 fun x H2 => ∃ ρ2 F2 r, Ok c G ρ2 σ H2 F2 ∧ HLe F1 F2 ∧ RepR c σ ρ2 F2 r x ∧ Sn c G F2 D ((fun r ρ => match look ρ r, ρ[i]? with
        | some e, some s => (match s.box with
          | some b => (match g b e d with
            | some b' => .nx (ρ.set i (s.with b'))
            | none => .bad)
          | none => .bad)
        | _, _ => .bad : R → MS) r ρ2) :=
      ⟨ρ1, F1, G, k1, (Sn.bind (rep := RepR c σ) h1).imp fun x H2 ⟨ρ2, F2, r, e2, k2, r2, h2⟩ => ⟨ρ2, F2, r, k2, e2.le, r2, h2⟩⟩
    obtain ⟨x, hx, a, ρ2, F2, G2, rfl, ty, hs, k2, h3⟩ := own_of h2
    refine ⟨_, hx, ρ2, F2, G2, k2, h3.imp fun y H3 ⟨ρ3, F3, r, k3, le, ry, h4⟩ => ?_⟩
    cases q0 : look ρ3 r with
    | none => simp only [q0] at h4; exact h4.elim
    | some e =>
      cases q1 : ρ3[i]? with
      | none => simp only [q0, q1] at h4; exact h4.elim
      | some s1 =>
        simp only [q0, q1] at h4
        cases q2 : s1.box with
        | none => simp only [q2] at h4; exact h4.elim
        | some b =>
          simp only [q2] at h4
          cases q3 : g b e d with
          | none => simp only [q3] at h4; exact h4.elim
          | some b' =>
            simp only [q3] at h4
            have ho1 : s1.owned = true := by cases s1 <;> first | rfl | cases q2
            obtain ⟨a', l, hl, z1, ⟨nF, nG, u, hu, hr⟩, _⟩ := k3.own q1 ho1
            rw [hs] at z1; cases z1
            have el : l = b := by
              rcases hl with rfl | rfl
              · exact Option.some.inj q2
              · exact Option.some.inj q2
            subst el
            exact sim a u l y v e d b' H3 F3 _ k3.fh nF hu hr (look_dq k3 ry q0) (Rp.le le rv) q3 fun u' hr' => h4 σ _ F3 (Ext.refl G F3) (k3.mut q1 q2 hs hr')

/-! ### raise X(), raise X('m'), try .. except X: -/
theorem pmk_own0 {C : Addr} {bmB : List Value} {B newId initId : String} {x : Str} (Fb : ExcBaseFacts B newId initId bmB) (q : PySem.W.excIn X.K C bmB newId = true) (gC : X.mg x = some (.ref C)) (kC : PySem.W.keepIn X.K (.ref C) = true) (r : Raises X (.ref C)) (hg : Gl X x)
    (hdb : (x == ("__debug__" : Str)) = false := by decide) : PMk X (.Call (.Name x p) [] [] pos) (fun _ H Q => Q (.ref C) none H) := by
  intro pins s σ H Q I h
  refine wpAny_Call_Name_kw (ld_glob I hg gC ?_ hdb)
  refine PySem.W.callWith_K0 I.kIn kC ?_
  obtain ⟨bm, N, nm, qn, bs, hdct, sn, sub, ab, col, dd, k0, k1, k2, k3, k5, mN, hC, hN, hni, Tt⟩ := exc_obj I.kIn q
  refine wpAny_call_exc_subT Fb Tt hC hN hni (fun h' e hm => ?_)
  exact mk_of I hm r h (I.hok.gone hm.new)
theorem vs_raise {x : String} {C : Value} (hc : X.calm = true) (tk : Takes X c.W) (he : PMk X e (fun _ H Q => Q C none H)) (hx : c.cls x = C) : PS X (.Raise (some e) none pos) (tS c (sRaise x)) :=
  ps_weak (ps_raise hc tk he) fun D σ H ⟨ρ, F, G, k, h⟩ => by
    have h : ∀ σ' H' F', VL.Ext G F F' → Ok c G ρ σ' H' F' → c.W (c.cls x) none σ' H' := h
    rw [hx] at h
    exact h σ H F (Ext.refl G F) k
def Vx.with (c : Vx) (W : WX) : Vx := { c with W := W }
def sTry (h : String → Option Bool) (body suite : MS) : MS := fun ρ => match body ρ with
  | .exc y ρ' => (match h y with
    | some true => (match suite ρ' with
      | .exc _ _ => .bad
      | r => r)
    | some false => .exc y ρ'
    | none => .bad)
  | r => r
theorem vs_try {hx : String → Option Bool} {x : Str} {C : Value} {body suite : List Stmt} {b₀ : Stmt} {np pos' : Pos} {s u : MS} (hK : X.K = c.K) (hs : X.stack = X.env :: X.outer) (hf : X.env.frame = some X.env.locals) (hc : Names X x C) (tk : Takes X c.W) (hm : ∀ y b, hx y = some b → PySem.W.exmOne X.K (c.cls y) C = some b)
    (hb : ∀ (W : WX) (pn : List (Addr × Obj)) (xe : Value → Shared → Prop), Takes (X.tr pn xe) W → PassesOwn (model X.prog X.w) X.A X.env xe → PSs (X.tr pn xe) body (tS (c.with W) s))
    (hsu : ∀ (a : Addr) (oe : Obj) (pn : List (Addr × Obj)), PSs (X.suite a ((a, oe) :: pn)) (b₀ :: suite) (tS (c.with fun _ _ _ _ => False) u)) :
    PS X (.Try body [.ExceptHandler (some (.Name x np)) none (b₀ :: suite) pos'] [] [] pos) (tS c (sTry hx s u)) :=
  ps_weak (ps_try_only (ts := fun _ _ _ => tS (c.with fun _ _ _ _ => False) u) hs hf hc tk (tb := fun W => tS (c.with W) s) hb (fun a oe cls d pn _ _ => hsu a oe pn)) fun D σ H ⟨ρ, F, G, k, h⟩ => by
    refine ⟨ρ, F, G, Ok.cc (c := c) (c' := c.with _) rfl rfl k, ?_⟩
    have back : ∀ {W : WX} {ρ' : Rho} {σ' : L2.St} {H' F' : Hp}, Ok (c.with W) G ρ' σ' H' F' → Ok c G ρ' σ' H' F' := fun {W _ _ _ _} k => Ok.cc (c := c.with W) (c' := c) rfl rfl k
    unfold sTry at h
    cases q : s ρ with
    | bad => simp only [q] at h; exact h
    | nx ρ' => simp only [q] at h; exact fun σ' H' F' e k' => h σ' H' F' e (back k')
    | bk ρ' => simp only [q] at h; exact fun σ' H' F' e k' => h σ' H' F' e (back k')
    | ct ρ' => simp only [q] at h; exact fun σ' H' F' e k' => h σ' H' F' e (back k')
    | rt d ρ' => simp only [q] at h; exact fun v σ' H' F' e k' r => h v σ' H' F' e (back k') r
    | exc y ρ' =>
      simp only [q] at h
      intro σ' H' F' e k'
      cases q2 : hx y with
      | none => simp only [q2] at h; exact h.elim
      | some b =>
        refine ⟨b, hm y b q2, fun eb a _ => ?_, fun eb => ?_⟩
        · subst eb
          simp only [q2] at h
          refine ⟨ρ', F', G, Ok.cc (c := c) (c' := c.with _) rfl rfl (back k'), ?_⟩
          have h := h.ext e
          cases q3 : u ρ' with
          | bad => simp only [q3] at h; exact h
          | nx ρ2 => simp only [q3] at h; exact fun σ' H' F' e k' => h σ' H' F' e (back k')
          | bk ρ2 => simp only [q3] at h; exact fun σ' H' F' e k' => h σ' H' F' e (back k')
          | ct ρ2 => simp only [q3] at h; exact fun σ' H' F' e k' => h σ' H' F' e (back k')
          | rt d ρ2 => simp only [q3] at h; exact fun v σ' H' F' e k' r => h v σ' H' F' e (back k') r
          | exc z ρ2 => simp only [q3] at h; exact h.elim
        · subst eb
          simp only [q2] at h
          exact h σ' H' F' e (back k')
end
end VL

set_option Elab.async false
set_option linter.all false
set_option autoImplicit false
set_option maxRecDepth 100000
namespace VL
open PySem PySem.Spec PyProof.Rows L2

/-! ### dicts -/
def toKey : D → Option Key
  | .int i => some (.inl i)
  | .str x => some (.inr x)
  | _ => none
def toKeys : List D → Option (List Key)
  | [] => some []
  | d :: r => match toKey d, toKeys r with
    | some k, some ks => some (k :: ks)
    | _, _ => none
def toTup : D → Option (List Key)
  | .tuple l => toKeys l
  | _ => none
theorem toKey_is {d : D} {k : Key} (h : toKey d = some k) : d = keyD k := by
  cases d <;> cases h <;> rfl
theorem toKeys_is : ∀ {l : List D} {ks : List Key}, toKeys l = some ks → l = ks.map keyD
  | [], ks, h => by cases h; rfl
  | d :: r, ks, h => by
    unfold toKeys at h
    cases q : toKey d with
    | none => simp only [q] at h; cases h
    | some k =>
      cases q2 : toKeys r with
      | none => simp only [q, q2] at h; cases h
      | some ks' => simp only [q, q2] at h; cases h; rw [toKey_is q, toKeys_is q2]; rfl
theorem toTup_is {d : D} {ks : List Key} (h : toTup d = some ks) : d = .tuple (ks.map keyD) := by
  cases d with
  | tuple l => rw [toKeys_is h]
  | _ => cases h
theorem toKey_key (k : Key) : toKey (keyD k) = some k := by cases k <;> rfl
theorem toKeys_keys : ∀ ks : List Key, toKeys (ks.map keyD) = some ks
  | [] => rfl
  | k :: r => by rw [List.map_cons, toKeys, toKey_key, toKeys_keys r]
/-- lookup, put: at data -/
def getE {κ : Type} [DecidableEq κ] (tk : D → Option κ) (k : κ) (es : List (D × D)) : Option D := (es.find? fun p => decide (tk p.1 = some k)).map (·.2)
def putE {κ : Type} [DecidableEq κ] (tk : D → Option κ) (kd : κ → D) (k : κ) (v : D) (es : List (D × D)) : List (D × D) :=
  if (es.any fun p => decide (tk p.1 = some k)) = true then es.map (fun p => if tk p.1 = some k then (p.1, v) else p) else es ++ [(kd k, v)]
section
variable {K : PySem.W.Frag} {X : Cx} {H F : Hp}
theorem RpKs.get {k : Key} : ∀ {kvs : List (Key × V)} {es : List (D × D)}, RpKs K F kvs es → match getE toKey k es with
    | some d => ∃ v, valV kvs k = some v ∧ Rp K F v d
    | none => valV kvs k = none
  | _, _, .nil => rfl
  | _, _, @RpKs.cons _ _ k' v vs d ds h r => by
    have ih := RpKs.get (k := k) r
    by_cases e : k' = k
    · subst e
      have e1 : getE toKey k' ((keyD k', d) :: ds) = some d := by simp [getE, List.find?_cons, toKey_key]
      rw [e1]
      exact ⟨v, valV_pos rfl, h⟩
    · have e1 : getE toKey k ((keyD k', d) :: ds) = getE toKey k ds := by simp [getE, List.find?_cons, toKey_key, e]
      rw [e1]
      have e2 : valV ((k', v) :: vs) k = valV vs k := valV_neg e
      rw [e2]
      exact ih
theorem RpTs.get {k : List Key} : ∀ {kvs : List (List Key × V)} {es : List (D × D)}, RpTs K F kvs es → match getE toTup k es with
    | some d => ∃ v, valV kvs k = some v ∧ Rp K F v d
    | none => valV kvs k = none
  | _, _, .nil => rfl
  | _, _, @RpTs.cons _ _ k' v vs d ds h r => by
    have ih := RpTs.get (k := k) r
    have tt : ∀ k : List Key, toTup (.tuple (k.map keyD)) = some k := toKeys_keys
    by_cases e : k' = k
    · subst e
      have e1 : getE toTup k' ((.tuple (k'.map keyD), d) :: ds) = some d := by simp [getE, List.find?_cons, tt]
      rw [e1]
      exact ⟨v, valV_pos rfl, h⟩
    · have e1 : getE toTup k ((.tuple (k'.map keyD), d) :: ds) = getE toTup k ds := by simp [getE, List.find?_cons, tt, e]
      rw [e1]
      have e2 : valV ((k', v) :: vs) k = valV vs k := valV_neg e
      rw [e2]
      exact ih
theorem RpKs.append : ∀ {vs ws : List (Key × V)} {ds es : List (D × D)}, RpKs K F vs ds → RpKs K F ws es → RpKs K F (vs ++ ws) (ds ++ es)
  | _, _, _, _, .nil, h => h
  | _, _, _, _, .cons h r, g => .cons h (r.append g)
theorem RpTs.append : ∀ {vs ws : List (List Key × V)} {ds es : List (D × D)}, RpTs K F vs ds → RpTs K F ws es → RpTs K F (vs ++ ws) (ds ++ es)
  | _, _, _, _, .nil, h => h
  | _, _, _, _, .cons h r, g => .cons h (r.append g)
theorem RpKs.repl {k : Key} {v : V} {d : D} (hv : Rp K F v d) : ∀ {kvs : List (Key × V)} {es : List (D × D)}, RpKs K F kvs es → RpKs K F (kvs.map fun kv => if kv.1 = k then (kv.1, v) else kv) (es.map fun p => if toKey p.1 = some k then (p.1, d) else p)
  | _, _, .nil => .nil
  | _, _, @RpKs.cons _ _ k' v' vs d' ds h r => by
    rw [List.map_cons, List.map_cons]
    by_cases e : k' = k
    · subst e
      rw [if_pos rfl, if_pos (toKey_key _)]
      exact .cons hv (RpKs.repl hv r)
    · rw [if_neg e, if_neg (by show ¬ toKey (keyD k') = some k; rw [toKey_key]; simpa using e)]
      exact .cons h (RpKs.repl hv r)
theorem RpTs.repl {k : List Key} {v : V} {d : D} (hv : Rp K F v d) : ∀ {kvs : List (List Key × V)} {es : List (D × D)}, RpTs K F kvs es → RpTs K F (kvs.map fun kv => if kv.1 = k then (kv.1, v) else kv) (es.map fun p => if toTup p.1 = some k then (p.1, d) else p)
  | _, _, .nil => .nil
  | _, _, @RpTs.cons _ _ k' v' vs d' ds h r => by
    rw [List.map_cons, List.map_cons]
    by_cases e : k' = k
    · subst e
      rw [if_pos rfl, if_pos (show toTup (.tuple (k'.map keyD)) = some k' from toKeys_keys _)]
      exact .cons hv (RpTs.repl hv r)
    · rw [if_neg e, if_neg (show ¬ toTup (.tuple (k'.map keyD)) = some k by show ¬ toKeys (k'.map keyD) = some k; rw [toKeys_keys]; simpa using e)]
      exact .cons h (RpTs.repl hv r)
theorem RpKs.any {k : Key} : ∀ {kvs : List (Key × V)} {es : List (D × D)}, RpKs K F kvs es → (kvs.any fun kv => decide (kv.1 = k)) = (es.any fun p => decide (toKey p.1 = some k))
  | _, _, .nil => rfl
  | _, _, @RpKs.cons _ _ k' v' vs d' ds h r => by
    rw [List.any_cons, List.any_cons, RpKs.any r]
    show (decide (k' = k) || _) = (decide (toKey (keyD k') = some k) || _)
    rw [toKey_key]
    simp
theorem RpTs.any {k : List Key} : ∀ {kvs : List (List Key × V)} {es : List (D × D)}, RpTs K F kvs es → (kvs.any fun kv => decide (kv.1 = k)) = (es.any fun p => decide (toTup p.1 = some k))
  | _, _, .nil => rfl
  | _, _, @RpTs.cons _ _ k' v' vs d' ds h r => by
    rw [List.any_cons, List.any_cons, RpTs.any r]
    show (decide (k' = k) || _) = (decide (toKeys (k'.map keyD) = some k) || _)
    rw [toKeys_keys]
    simp
theorem RpKs.put {k : Key} {v : V} {d : D} {kvs : List (Key × V)} {es : List (D × D)} (hv : Rp K F v d) (r : RpKs K F kvs es) : RpKs K F (putK kvs k v) (putE toKey keyD k d es) := by
  unfold putK putE
  rw [RpKs.any r]
  split
  · exact RpKs.repl hv r
  · exact r.append (.cons hv .nil)
theorem RpTs.put {k : List Key} {v : V} {d : D} {kvs : List (List Key × V)} {es : List (D × D)} (hv : Rp K F v d) (r : RpTs K F kvs es) : RpTs K F (putK kvs k v) (putE toTup (fun k => .tuple (k.map keyD)) k d es) := by
  unfold putK putE
  rw [RpTs.any r]
  split
  · exact RpTs.repl hv r
  · exact r.append (.cons hv .nil)
/-- the entry at a key: what is known of a dict of int and text keys, or of tuples of these -/
def dkB (es : List (D × D)) : Bool := es.all fun p => (toKey p.1).isSome
def dtB (es : List (D × D)) : Bool := es.all fun p => (toTup p.1).isSome
def dGet (es : List (D × D)) (d : D) : Option (Option D) := match toKey d with
  | some k => if dkB es = true then some (getE toKey k es) else none
  | none => match toTup d with
    | some ks => if dtB es = true then some (getE toTup ks es) else none
    | none => none
theorem key_sq {pins : List (Addr × Obj)} {s : Shared} {σ : L2.St} {b : Addr} {ks : List Key} (I : Inv X pins σ H s) (h : SqT X.K H b (ks.map kV)) : (tupleKind (mixKind X.prog X.w)).is s.heap ks b := by
  obtain ⟨its, rv, ⟨o, h1, h2, n, h3⟩, _⟩ := I.tuple h
  exact ⟨o, its.toArray, n, h1, h2, h3, by simpa using items_are rv⟩
theorem rd0 {P : Program} {w : World} {h : Heap} {a : Addr} (ok : HOk P w H h) (e : Rd H a (.dT []) ∨ Rd H a (.dK [])) : (a == sysModules) = false ∧ h.DictOf (mixKind P w) a [] ∧ h.DictOfH (tupleKind (mixKind P w)) a [] := by
  have go : ∀ {o : Obj} {es : Array DictEntry} {ep : Nat}, h.get? a = some o → o.ExactDict → o.data = .dict es ep → es = #[] → h.DictOf (mixKind P w) a [] ∧ h.DictOfH (tupleKind (mixKind P w)) a [] := fun {o es ep} h1 h2 h3 h4 => by
    subst h4
    exact ⟨⟨o, #[], ep, h1, h2, h3, fun e he => by simp at he, .nil, List.nodup_nil⟩, ⟨o, #[], ep, h1, h2, h3, rfl, fun x hx => by simp at hx, List.nodup_nil⟩⟩
  rcases e with e | e
  · obtain ⟨z, hd, xs, rel, o, es, ep, h1, h2, h3, h4, h5⟩ := dt_rd ok e
    cases rel
    exact ⟨hd, go h1 h2 h3 (Array.toList_inj.mp (by rw [h4]; rfl))⟩
  · obtain ⟨z, hd, vs, rel, o, es, ep, h1, h2, h3, h4, h5, h6⟩ := dk_rd ok e
    cases rel
    refine ⟨hd, go h1 h2 h3 (Array.toList_inj.mp ?_)⟩
    generalize es.toList = l at h5
    cases h5
    rfl
/-- what a dict answers -/
def DAns (K : PySem.W.Frag) (H : Hp) (a : Addr) (y : V) (o : Option V) : Prop :=
  (∃ (kvs : List (Key × V)) (k : Key), Rd H a (.dK kvs) ∧ y = kV k ∧ o = valV kvs k) ∨ (∃ (kvs : List (List Key × V)) (ks : List Key) (b : Addr), Rd H a (.dT kvs) ∧ y = .ref b ∧ SqT K H b (ks.map kV) ∧ o = valV kvs ks) ∨
  (o = none ∧ (Rd H a (.dT []) ∨ Rd H a (.dK [])) ∧ ((∃ k : Key, y = kV k) ∨ ∃ (ks : List Key) (b : Addr), y = .ref b ∧ SqT K H b (ks.map kV)))
section
variable {pins : List (Addr × Obj)} {s : Shared} {σ : L2.St} {a : Addr} {y : V} {u : Value} {o : Option V} {E : Value → Shared → Prop}
theorem da_in {Q : Value → Shared → Prop} (hu : X.A.units + 1 < cLine) (I : Inv X pins σ H s) (g : DAns X.K H a y o) (ry : RelV y u) (h : ∀ s', Inv X pins σ H s' → Q (.bool o.isSome) s') : wpAny (model X.prog X.w) X.A (compareOp .In u (.ref a)) Q E s := by
  rcases g with ⟨kvs, k, e, rfl, rfl⟩ | ⟨kvs, ks, b, e, rfl, eb, rfl⟩ | ⟨rfl, e, ⟨k, rfl⟩ | ⟨ks, b, rfl, eb⟩⟩
  · exact d_in hu I (.inl ⟨kvs, k, e, rfl, rfl⟩) ry h
  · cases (show u = Value.ref b from ry)
    obtain ⟨z, hd, xs, rel, dd⟩ := dt_rd I.hok e
    refine wpAny_in_heap (tupleKind_room_in1 hu) (key_sq I eb) hd dd ?_
    have q := (rel.val ks).isSome_eq
    rw [Option.isSome_map] at q
    rw [← q]
    exact h _ (I.tok _)
  · obtain ⟨hd, d1, d2⟩ := rd0 I.hok e
    exact wpAny_in_of (kV_is ry) hd d1.mapOf (h _ (I.tok _))
  · cases (show u = Value.ref b from ry)
    obtain ⟨hd, d1, d2⟩ := rd0 I.hok e
    exact wpAny_in_heap (tupleKind_room_in1 hu) (key_sq I eb) hd d2 (h _ (I.tok _))
theorem da_notIn {Q : Value → Shared → Prop} (hu : X.A.units + 1 < cLine) (I : Inv X pins σ H s) (g : DAns X.K H a y o) (ry : RelV y u) (h : ∀ s', Inv X pins σ H s' → Q (.bool (!o.isSome)) s') : wpAny (model X.prog X.w) X.A (compareOp .NotIn u (.ref a)) Q E s := by
  rcases g with ⟨kvs, k, e, rfl, rfl⟩ | ⟨kvs, ks, b, e, rfl, eb, rfl⟩ | ⟨rfl, e, ⟨k, rfl⟩ | ⟨ks, b, rfl, eb⟩⟩
  · exact d_notIn hu I (.inl ⟨kvs, k, e, rfl, rfl⟩) ry h
  · cases (show u = Value.ref b from ry)
    obtain ⟨z, hd, xs, rel, dd⟩ := dt_rd I.hok e
    refine wpAny_notIn_heap (tupleKind_room_in1 hu) (key_sq I eb) hd dd ?_
    have q := (rel.val ks).isSome_eq
    rw [Option.isSome_map] at q
    rw [← q]
    exact h _ (I.tok _)
  · obtain ⟨hd, d1, d2⟩ := rd0 I.hok e
    exact wpAny_notIn_of (kV_is ry) hd d1.mapOf (h _ (I.tok _))
  · cases (show u = Value.ref b from ry)
    obtain ⟨hd, d1, d2⟩ := rd0 I.hok e
    exact wpAny_notIn_heap (tupleKind_room_in1 hu) (key_sq I eb) hd d2 (h _ (I.tok _))
theorem da_get {v : V} {Q : Value → Shared → Prop} (hu : X.A.units + 1 < cLine) (I : Inv X pins σ H s) (g : DAns X.K H a y (some v)) (ry : RelV y u) (h : ∀ w' s', Inv X pins σ H s' → RelV v w' → Q w' s') :
    s.TypeIs (.ref a) "dict" ∧ wpAny (model X.prog X.w) X.A (getItem (.ref a) u) Q E s := by
  rcases g with ⟨kvs, k, e, rfl, l⟩ | ⟨kvs, ks, b, e, rfl, eb, l⟩ | ⟨l, _⟩
  · exact ⟨dict_typeIs I (.inl ⟨kvs, k, e, rfl, l⟩), d_getItem hu I (.inl ⟨kvs, k, e, rfl, l⟩) ry h⟩
  · cases (show u = Value.ref b from ry)
    obtain ⟨z, hd, xs, rel, dd⟩ := dt_rd I.hok e
    refine ⟨dd.typeIs, ?_⟩
    obtain ⟨w', hw, rw'⟩ := RelO.some_of (v := v) (o := (atKey xs ks).map (·.2)) (by rw [l]; exact rel.val ks)
    obtain ⟨p, hp, hp2⟩ := Option.map_eq_some_iff.mp hw
    refine wpAny_getItem_heap (tupleKind_room_in1 hu) (key_sq I eb) dd hp ?_
    rw [hp2]
    exact h w' _ (I.tok _) rw'
  · cases l
end
def rIxDA (K : PySem.W.Frag) : R2 := fun x y H Q => ∃ a v, x = .ref a ∧ DAns K H a y (some v) ∧ Q v H
theorem ix_dict (hu : X.A.units + 1 < cLine) : IxR X (rIxDA X.K) := by
  intro value slice pins s σ H x y v u Q I rx ry h hs
  obtain ⟨a, z, rfl, g, q⟩ := h
  obtain rfl : v = Value.ref a := rx
  obtain ⟨hT, h₂⟩ := da_get (E := X.xe) (Q := EP X pins σ Q) hu I g ry fun w' s3 I3 rw' => ⟨z, H, I3, rw', q⟩
  unfold subscriptTail
  refine wpAny_bind ?_
  rw [getitemInPython_of_ne hT.not_modules]
  refine wpAny_bind (wpAny_specialOf hT PySem.F.slot_dict_getitem.lookup ?_)
  have fin : wpAny (model X.prog X.w) X.A (subscripted slice false (.ref a) u) (fun r s₃ => wpAny (model X.prog X.w) X.A (letTemporaryGo value (.ref a) r >>= fun _ => pure r) (EP X pins σ Q) X.xe s₃) X.xe s := by
    rw [hs]
    exact wpAny_operating (wpAny_mono h₂ (fun r s₃ h₃ => wpAny_bind (wpAny_letTemporaryGo (wpAny_pure h₃))) fun _ _ x => x)
  first
    | exact wpAny_pure (wpAny_bind fin)
    | exact wpAny_bind (wpAny_pure (wpAny_bind fin))
    | exact wpAny_bind fin
/-- at data -/
theorem rpK_key {F : Hp} {x : V} {k : Key} (h : Rp K F x (keyD k)) : x = kV k := by
  cases k <;> cases h <;> rfl
theorem rpAll_keys {F : Hp} : ∀ {ks : List Key} {vs : List V}, RpAll K F vs (ks.map keyD) → vs = ks.map kV
  | [], _, h => by cases h; rfl
  | n :: r, _, h => by
    cases h with
    | cons h1 h2 => rw [rpK_key h1, rpAll_keys h2]; rfl
theorem dkB_ts {kvs : List (List Key × V)} {es : List (D × D)} (r : RpTs K F kvs es) (h : dkB es = true) : kvs = [] ∧ es = [] := by
  cases r with
  | nil => exact ⟨rfl, rfl⟩
  | cons h1 h2 => simp [dkB, toKey] at h
theorem dtB_ks {kvs : List (Key × V)} {es : List (D × D)} (r : RpKs K F kvs es) (h : dtB es = true) : kvs = [] ∧ es = [] := by
  cases r with
  | nil => exact ⟨rfl, rfl⟩
  | @cons k => cases k <;> simp [dtB, toTup, keyD] at h
theorem dq_key {H F : Hp} {y : V} {e : D} {k : Key} (h : Dq K H F y e) (q : toKey e = some k) : y = kV k := by
  have e1 := toKey_is q
  subst e1
  cases k with
  | inl i => cases (show Rp K F y (.int i) from h); rfl
  | inr i => cases (show Rp K F y (.str i) from h); rfl
theorem dq_tup {H F : Hp} {y : V} {e : D} {ks : List Key} (fh : HLe F H) (h : Dq K H F y e) (q : toTup e = some ks) : ∃ b, y = .ref b ∧ SqT K H b (ks.map kV) := by
  have e1 := toTup_is q
  subst e1
  cases (show Rp K F y (.tuple (ks.map keyD)) from h) with
  | tup q r => rw [rpAll_keys r] at q; exact ⟨_, rfl, SqT.le fh q⟩
theorem no_script {es : List (D × D)} (h : dkB es = true ∨ dtB es = true) : ∀ l, es ≠ [(.none, l)] := fun l e => by
  subst e
  rcases h with h | h <;> simp [dkB, dtB, toKey, toTup] at h
def AnsIs (K : PySem.W.Frag) (F : Hp) (ov : Option V) : Option D → Prop
  | some d => ∃ v, ov = some v ∧ Rp K F v d
  | none => ov = none
theorem dget_ans {H F : Hp} {x y : V} {es : List (D × D)} {e : D} {o : Option D} (fh : HLe F H) (hx : Dq K H F x (.dict es)) (hy : Dq K H F y e) (h : dGet es e = some o) : ∃ a ov, x = .ref a ∧ DAns K H a y ov ∧ AnsIs K F ov o := by
  unfold dGet at h
  cases q : toKey e with
  | some k =>
    simp only [q] at h
    by_cases hb : dkB es = true
    · rw [if_pos hb] at h
      cases h
      have ey := dq_key hy q
      subst ey
      obtain ⟨a, rfl, ⟨kvs, h1, h2⟩ | ⟨kvs, h1, h2⟩⟩ := dq_dict fh hx (no_script (.inl hb))
      · refine ⟨a, valV kvs k, rfl, .inl ⟨kvs, k, h1, rfl, rfl⟩, ?_⟩
        have := h2.get (k := k)
        generalize getE toKey k es = oo at this
        cases oo with
        | none => exact this
        | some d => exact this
      · obtain ⟨e1, e2⟩ := dkB_ts h2 hb
        subst e1 e2
        exact ⟨a, none, rfl, .inr (.inr ⟨rfl, .inl h1, .inl ⟨k, rfl⟩⟩), rfl⟩
    · rw [if_neg hb] at h; cases h
  | none =>
    simp only [q] at h
    cases q2 : toTup e with
    | none => simp only [q2] at h; cases h
    | some ks =>
      simp only [q2] at h
      by_cases hb : dtB es = true
      · rw [if_pos hb] at h
        cases h
        obtain ⟨b, rfl, hq⟩ := dq_tup fh hy q2
        obtain ⟨a, rfl, ⟨kvs, h1, h2⟩ | ⟨kvs, h1, h2⟩⟩ := dq_dict fh hx (no_script (.inr hb))
        · obtain ⟨e1, e2⟩ := dtB_ks h2 hb
          subst e1 e2
          exact ⟨a, none, rfl, .inr (.inr ⟨rfl, .inr h1, .inr ⟨ks, b, rfl, hq⟩⟩), rfl⟩
        · refine ⟨a, valV kvs ks, rfl, .inr (.inl ⟨kvs, ks, b, h1, rfl, hq, rfl⟩), ?_⟩
          have := h2.get (k := ks)
          generalize getE toTup ks es = oo at this
          cases oo with
          | none => exact this
          | some d => exact this
      · rw [if_neg hb] at h; cases h
/-- x[y] of a list, a tuple, a text, a dict -/
def gIxA (d e : D) : Option D := match d with
  | .dict es => (match dGet es e with
    | some (some z) => some z
    | _ => none)
  | _ => gIx d e
def rIxA (K : PySem.W.Frag) : R2 := fun x y H Q => rIx K x y H Q ∨ rIxDA K x y H Q
theorem ix_all (hu : X.A.units + 1 < cLine) : IxR X (rIxA X.K) := ix_seq.or (ix_dict hu)
theorem sim_ixA : Sim2 K (rIxA K) gIxA := by
  intro x y H F d e d' Q fh hx hy hg f
  unfold gIxA at hg
  split at hg
  · rename_i es
    split at hg
    · rename_i z q
      cases hg
      obtain ⟨a, ov, rfl, h1, v, rfl, h2⟩ := dget_ans fh hx hy q
      exact .inr ⟨a, v, rfl, h1, f _ H F (Grow.refl fh) h2⟩
    · cases hg
  · exact .inl (sim_ix x y H F _ _ d' Q fh hx hy hg f)
/-- x in y, y a dict, too -/
def inA (d e : D) : Option Bool := match e with
  | .dict es => (dGet es d).map fun o => o.isSome
  | _ => inD d e
def gInA (d e : D) : Option D := (inA d e).map fun b => .bool b
def gNotInA (d e : D) : Option D := (inA d e).map fun b => .bool (!b)
def rInA (K : PySem.W.Frag) (g : Bool → Bool) : R2 := fun x y H Q => rInD K g x y H Q ∨ ∃ a o, y = .ref a ∧ DAns K H a x o ∧ Q (.bl (g o.isSome)) H
theorem op_inA (hu : X.A.units + 66 < cLine) : OpR X (compareOp .In) (rInA X.K id) := by
  intro pins s σ H x y v u Q I rx ry h
  rcases h with h | ⟨a, o, rfl, g, q⟩
  · exact op_inV hu pins s σ H x y v u Q I rx ry h
  · obtain rfl : u = Value.ref a := ry
    exact da_in (by omega) I g rx fun s' I' => ⟨.bl _, H, I', rfl, q⟩
theorem op_notInA (hu : X.A.units + 66 < cLine) : OpR X (compareOp .NotIn) (rInA X.K not) := by
  intro pins s σ H x y v u Q I rx ry h
  rcases h with h | ⟨a, o, rfl, g, q⟩
  · exact op_notInV hu pins s σ H x y v u Q I rx ry h
  · obtain rfl : u = Value.ref a := ry
    exact da_notIn (by omega) I g rx fun s' I' => ⟨.bl _, H, I', rfl, q⟩
theorem inA_end {g : Bool → Bool} {x y : V} {H F : Hp} {d e : D} {b : Bool} {Q : VK} (fh : HLe F H) (hx : Dq K H F x d) (hy : Dq K H F y e) (h : inA d e = some b) (q : Q (.bl (g b)) H) : rInA K g x y H Q := by
  unfold inA at h
  split at h
  · rename_i es
    cases q2 : dGet es d with
    | none => rw [q2] at h; cases h
    | some o =>
      rw [q2] at h
      cases h
      obtain ⟨a, ov, rfl, h1, h2⟩ := dget_ans fh hy hx q2
      refine .inr ⟨a, ov, rfl, h1, ?_⟩
      have : ov.isSome = o.isSome := by
        cases o with
        | none => have h2 : ov = none := h2; rw [h2]; rfl
        | some d => obtain ⟨v, e, _⟩ := h2; rw [e]; rfl
      rw [this]
      exact q
  · exact .inl (in_end fh hx hy h q)
theorem sim_inA : Sim2 K (rInA K id) gInA := by
  intro x y H F d e d' Q fh hx hy hg f
  unfold gInA at hg
  cases q : inA d e with
  | none => rw [q] at hg; cases hg
  | some b => rw [q] at hg; cases hg; exact inA_end fh hx hy q (f _ H F (Grow.refl fh) (.bl _))
theorem sim_notInA : Sim2 K (rInA K not) gNotInA := by
  intro x y H F d e d' Q fh hx hy hg f
  unfold gNotInA at hg
  cases q : inA d e with
  | none => rw [q] at hg; cases hg
  | some b => rw [q] at hg; cases hg; exact inA_end fh hx hy q (f _ H F (Grow.refl fh) (.bl _))
end
end VL

set_option Elab.async false
set_option linter.all false
set_option autoImplicit false
set_option maxRecDepth 100000
namespace VL
open PySem PySem.Spec PyProof.Rows L2
section
variable {X : Cx} {c : Vx} {G : Hp} {ρ : Rho} {σ : L2.St} {H F F1 : Hp}
variable {a b e : Expr} {es rest : List Expr} {p pos : Pos} {m n : M R} {st : Stmt}

/-! ### new dicts, stores -/
theorem vb_dk0 : PE X (.Dict [] [] pos) (tB c (mPure (.dk []))) :=
  pe_weak pe_dnewK fun σ H Q ⟨ρ, F, G, k, h⟩ => fun p hp => h p (.dK []) H F (Ext.refl G F) k hp ⟨[], rfl, .nil⟩
def gSetA (b : Box) (d e : D) : Option Box := match b with
  | .li l => (match d with
    | .int k => (ixN l.length k).map fun j => .li (l.set j e)
    | _ => none)
  | .dk es => (match toKey d with
    | some k => if decide (es.length < 16777216) = true then some (.dk (putE toKey keyD k e es)) else none
    | none => none)
  | _ => none
def rSetA : TSet := fun o i v H Q => rSetL o i v H Q ∨ rSetD o i v H Q
theorem set_all (hu : X.A.units + 1 < cLine) : PSet X rSetA := by
  intro pins s σ H o i v ov iv u Q I ro ri rv h
  rcases h with h | h
  · exact set_list pins s σ H o i v ov iv u Q I ro ri rv h
  · exact set_dict hu pins s σ H o i v ov iv u Q I ro ri rv h
theorem sim_setA {K : PySem.W.Frag} : SimI K rSetA gSetA := by
  intro a u b x v d e b' H F Q fh nF hu hr hx hv hg f
  unfold gSetA at hg
  split at hg
  · split at hg
    · rename_i l _ k
      cases q : ixN l.length k with
      | none => rw [q] at hg; cases hg
      | some j =>
        rw [q] at hg
        cases hg
        obtain ⟨vs, rfl, r⟩ := hr
        cases (show Rp K F x _ from hx)
        exact .inl ⟨a, vs, k, j, rfl, rfl, hu, by rw [r.length]; exact q, f _ ⟨_, rfl, r.set j hv⟩⟩
    · cases hg
  · rename_i es
    split at hg
    · rename_i k q
      split at hg
      · rename_i hc
        cases hg
        obtain ⟨kvs, rfl, r⟩ := hr
        have ey := dq_key hx q
        subst ey
        exact .inr ⟨a, _, rfl, .inl ⟨kvs, k, hu, rfl, by rw [r.length, sizeLine_eq]; exact of_decide_eq_true hc, rfl⟩, f _ ⟨_, rfl, r.put hv⟩⟩
      · cases hg
    · cases hg
  · cases hg

/-! ### for x in d -/
theorem keys_len {K : PySem.W.Frag} {kvs : List (Key × V)} {es : List (D × D)} (r : RpKs K F kvs es) : kvs.length = (es.map (·.1)).length := by rw [List.length_map, r.length]
theorem keys_at {K : PySem.W.Frag} : ∀ {kvs : List (Key × V)} {es : List (D × D)} {i : Nat} {d : D}, RpKs K F kvs es → (es.map (·.1))[i]? = some d → ∃ k v, kvs[i]? = some (k, v) ∧ d = keyD k
  | _, _, _, _, .nil, h => by simp at h
  | _, _, 0, _, .cons _ _, h => by simp at h; subst h; exact ⟨_, _, rfl, rfl⟩
  | _, _, i + 1, _, .cons _ r, h => by simpa using keys_at r (i := i) (by simpa using h)
theorem walk_keysD {K : PySem.W.Frag} {F : Hp} {a : Addr} {o : Obj} {kvs : List (Key × V)} {es : List (D × D)} (h : F a = some (.frz o (.dK kvs))) (r : RpKs K F kvs es) : Walk K F (es.map (·.1)) (Itk a o kvs) := fun i H F' le fh => by
  have hH := fh _ _ (le _ _ h)
  refine ⟨fun d hd => ?_, fun hi => ⟨hH, by rw [keys_len r]; exact hi⟩⟩
  obtain ⟨k, v, h1, h2⟩ := keys_at r hd
  have hi : i < kvs.length := (List.getElem?_eq_some_iff.mp h1).1
  refine ⟨⟨hH, hi⟩, fun x H' ⟨e, k', v', y1, y2⟩ => ?_⟩
  subst e
  rw [h1] at y1
  cases y1
  subst h2 y2
  refine ⟨F', Grow.refl fh, ?_⟩
  cases k with
  | inl i => exact .int _
  | inr x => exact .str _
def itA : D → Option (List D)
  | .list l => some l
  | .tuple l => some l
  | .str x => some (signs x)
  | .dict es => if dkB es = true then some (es.map (·.1)) else none
  | _ => none
def iAll (K : PySem.W.Frag) (te : TE) : TI := fun σ H R => te σ H fun x H1 => ((∃ a, x = .ref a ∧ (∃ xs, SqL K H1 a xs) ∧ R (Itl K a) H1) ∨ (∃ a, x = .ref a ∧ (∃ xs, SqT K H1 a xs) ∧ R (Itt K a) H1) ∨ ∃ y, x = .str y ∧ R (Its y) H1) ∨ (∃ d o kvs, x = .ref d ∧ H1 d = some (.frz o (.dK kvs)) ∧ R (Itk d o kvs) H1) ∨ ∃ d o kvs, x = .ref d ∧ H1 d = some (.frz o (.dT kvs)) ∧ R (Itkt d o kvs) H1
theorem pi_all {tg : Expr} {te : TE} (h : PE X e te) : PI X tg e (iAll X.K te) := by
  refine ⟨fun pins s σ H R I q => ?_⟩
  refine thn (h.run pins s σ H _ I q) fun v s1 ⟨x, H1, I1, r1, q1⟩ => ?_
  rcases q1 with (⟨a, rfl, ⟨xs, hq⟩, q⟩ | ⟨a, rfl, ⟨xs, hq⟩, q⟩ | ⟨y, rfl, q⟩) | ⟨d, o, kvs, rfl, hd, q⟩ | ⟨d, o, kvs, rfl, hd, q⟩
  · cases r1
    obtain ⟨its, rv, p, hz⟩ := I1.list hq
    refine wpAny_pyIter_list p.isList ?_
    refine ⟨s1.heap.objs.size, [s1.heap.objs.size], _, _, H1, rfl, I1.kept (t' := s1.toks) fun b o e => Heap.get?_push_of_some _ e, turn_list a _, ⟨_, Heap.get?_push_size _ rfl, rfl, rfl⟩, fun b hb => ?_, q⟩
    have e : b = s1.heap.objs.size := by simpa using hb
    subst e
    exact I1.fpOk (Nat.le_refl _) (I1.hok.fresh (Nat.le_refl _))
  · cases r1
    obtain ⟨its, rv, p, hz⟩ := I1.tuple hq
    refine wpAny_pyIter_tuple (show s1.heap.IsTuple a its.toArray from p) ?_
    refine ⟨s1.heap.objs.size, [s1.heap.objs.size], _, _, H1, rfl, I1.kept (t' := s1.toks) fun b o e => Heap.get?_push_of_some _ e, turn_tuple a _, ⟨_, Heap.get?_push_size _ rfl, rfl, rfl⟩, fun b hb => ?_, q⟩
    have e : b = s1.heap.objs.size := by simpa using hb
    subst e
    exact I1.fpOk (Nat.le_refl _) (I1.hok.fresh (Nat.le_refl _))
  · obtain ⟨t, rfl⟩ := r1
    cases ha : y.cps.all (· < 128)
    · exact wpAny_pyIter_wide ha (pi_one (tk := s1.toks) I1 _ (turn_str _ y t "str_iterator" (.inr rfl)) ⟨_, Heap.get?_push_size _ rfl, rfl, rfl⟩ q)
    · exact wpAny_pyIter_ascii ha (pi_one (tk := s1.toks) I1 _ (turn_str _ y t "str_ascii_iterator" (.inl rfl)) ⟨_, Heap.get?_push_size _ rfl, rfl, rfl⟩ q)
  · obtain rfl : v = Value.ref d := r1
    obtain ⟨hs, hgd, hx, es, ep, vs, hdt, hsz, kv, hm⟩ := I1.frzK hd
    refine iter_keys hs hgd hx hdt (pi_one (tk := s1.toks) I1 _ (turn_keys _ hdt) ⟨_, Heap.get?_push_size _ rfl, rfl, ?_⟩ q)
    rw [hsz] <;> rfl
  · obtain rfl : v = Value.ref d := r1
    obtain ⟨hs, hgd, hx, es, ep, hdt, hsz, ent⟩ := I1.frzT hd
    refine iter_keys hs hgd hx hdt (pi_one (tk := s1.toks) I1 _ (turn_keysT _ hdt) ⟨_, Heap.get?_push_size _ rfl, rfl, ?_⟩ q)
    rw [hsz] <;> rfl
theorem walk_keys0 {K : PySem.W.Frag} {F : Hp} {a : Addr} {o : Obj} (h : F a = some (.frz o (.dT []))) : Walk K F [] (Itkt a o []) := fun i H F' le fh =>
  ⟨fun d hd => by simp at hd, fun _ => ⟨fh _ _ (le _ _ h), Nat.zero_le _⟩⟩
theorem vi_all {tg : Expr} (hK : X.K = c.K) (h : PE X e (tM c m)) : PI X tg e (tI c (mIt itA m)) :=
  pi_weak (pi_all (ve_frz h)) fun σ H R h => by
    obtain ⟨ρ, F, G, k, h⟩ := it_of h
    refine ⟨ρ, F, G, k, h.imp fun x H1 ⟨F, d, l, fh, r, g, f⟩ => ?_⟩
    rw [hK]
    cases d with
    | list ds =>
      cases g
      cases r with
      | lst q rr => exact .inl (.inl ⟨_, rfl, ⟨_, SqL.of (fh _ _ q)⟩, f _ (walk_list q rr)⟩)
    | tuple ds =>
      cases g
      cases r with
      | tup q rr => exact .inl (.inr (.inl ⟨_, rfl, ⟨_, SqT.le fh q⟩, f _ (walk_tup q rr)⟩))
    | str y =>
      cases g
      cases r
      exact .inl (.inr (.inr ⟨y, rfl, f _ walk_str⟩))
    | dict ds =>
      have g : (if dkB ds = true then some (ds.map (·.1)) else none) = some l := g
      by_cases hb : dkB ds = true
      · rw [if_pos hb] at g
        cases g
        cases r with
        | frl q r => exact absurd rfl (no_script (.inl hb) _)
        | dct q r => exact .inr (.inl ⟨_, _, _, rfl, fh _ _ q, f _ (walk_keysD q r)⟩)
        | dctT q r =>
          obtain ⟨e1, e2⟩ := dkB_ts r hb
          subst e1 e2
          exact .inr (.inr ⟨_, _, _, rfl, fh _ _ q, f _ (walk_keys0 q)⟩)
      · rw [if_neg hb] at g; cases g
    | _ => cases g

/-! ### dict comprehensions, keys ints or texts -/
def dcLoop (own : List Nat) (t : Tgt) (mt : M Bool) (mk mv : M D) : List D → List (D × D) → Rho → Res (List (D × D))
  | [], es, ρ => .ok es ρ
  | x :: xs, es, ρ => match wipeR own ρ with
    | none => .bad
    | some ρ0 => match t x ρ0 with
      | none => .bad
      | some ρ1 => match mt ρ1 with
        | .ok true ρ2 => (match mk ρ2 with
          | .ok kd ρ3 => (match mv ρ3 with
            | .ok vd ρ4 => (match toKey kd with
              | some k => dcLoop own t mt mk mv xs (putE toKey keyD k vd es) (unwipe own ρ ρ4)
              | none => .bad)
            | _ => .bad)
          | _ => .bad)
        | .ok false ρ2 => dcLoop own t mt mk mv xs es (unwipe own ρ ρ2)
        | _ => .bad
def mDc (own : List Nat) (mi : M (List D)) (t : Tgt) (mt : M Bool) (mk mv : M R) : M Box := mBind mi fun l ρ => if lenOk l = true then (match dcLoop own t mt (mFrz mk) (mFrz mv) l [] ρ with
  | .ok es ρ' => .ok (.dk es) ρ'
  | _ => .bad) else .bad
def DcPost (c : Vx) (G : Hp) (σ : L2.St) (F : Hp) (Q : VK) : Res (List (D × D)) → Prop
  | .ok es ρ' => ∀ p kvs H' F', Ext G F F' → Ok c G ρ' σ H' F' → H' p = none → RpKs c.K F' kvs es → Q (.ref p) (upd H' p (.dK kvs))
  | _ => False
theorem DcPost.ext {Q : VK} {r : Res (List (D × D))} (h : DcPost c G σ F Q r) (e : Ext G F F1) : DcPost c G σ F1 Q r := by
  cases r with
  | ok ds ρ' => exact fun p vs H' F' e' k => h p vs H' F' (e.trans e') k
  | bad => exact h
  | exc x ρ' => exact h
theorem putE_len {κ : Type} [DecidableEq κ] (tk : D → Option κ) (kd : κ → D) (k : κ) (v : D) (es : List (D × D)) : (putE tk kd k v es).length ≤ es.length + 1 := by
  unfold putE
  split <;> simp
theorem dc_of {own is : List Nat} {mi : M (List D)} {t : Tgt} {mt : M Bool} {mk mv : M R} {Q : VK} (hs : ∀ j ∈ is, j ∈ own) (h : tB c (mDc own mi t mt mk mv) σ H Q) : tDc (tI c mi) (tG c.blk t is) (tT c.blk mt) (tD c.blk (mFrz mk)) (tD c.blk (mFrz mv)) own σ H Q := by
  obtain ⟨ρ, F, G, k, h⟩ := h
  refine ⟨ρ, F, G, k, ?_⟩
  unfold mDc mBind at h
  cases q : mi ρ with
  | bad => simp only [q] at h; exact h
  | exc x ρ' => simp only [q] at h; exact h
  | ok l ρ' =>
    simp only [q] at h
    intro J H1 F1 e1 k1 w D hD
    have hln : lenOk l = true := by
      by_cases z : lenOk l = true
      · exact z
      · rw [if_neg z] at h; exact h.elim
    rw [if_pos hln] at h
    have hsz := lenOk_le hln
    have nF : F1 D = none := k1.fh.free hD
    have nG : G D = none := k1.gh.free hD
    have p0 : DcPost c G σ F1 Q (dcLoop own t mt (mFrz mk) (mFrz mv) l [] ρ') := by
      cases z : dcLoop own t mt (mFrz mk) (mFrz mv) l [] ρ' with
      | ok ds ρ2 => simp only [z] at h; exact fun p vs H' F' e' k' hp rv => h p _ H' F' (e1.trans e') k' hp ⟨vs, rfl, rv⟩
      | bad => simp only [z] at h; exact h
      | exc x ρ2 => simp only [z] at h; exact h.elim
    have k1' : Ok c (upd G D (.dK [])) ρ' σ (upd H1 D (.dK [])) F1 := by
      have nown : ∀ i a, OwnAt ρ' σ i a → a ≠ D := fun i a ⟨⟨s, e, ho⟩, hh1⟩ => by
        obtain ⟨a', l, _, hh2, ⟨_, _, us, hh3, _⟩, _⟩ := k1.own e ho
        rw [hh1] at hh2; cases hh2
        exact ne_of_none hh3 hD
      have gr : Grow H1 F1 (upd H1 D (.dK [])) F1 := ⟨HLe.put hD, HLe.refl _, k1.fh.trans (HLe.put hD), fun b o q => .inl q⟩
      refine (k1.grow gr).reG (fun b o e => ?_) fun i a ho => ?_
      · by_cases eb : b = D
        · subst eb; rw [upd_same] at e ⊢; exact e
        · rw [upd_ne eb] at e ⊢; exact k1.gh b o e
      · rw [upd_ne (nown i a ho)]
        obtain ⟨⟨s, e, o⟩, hh1⟩ := ho
        obtain ⟨a', l, _, hh2, ⟨_, g, _⟩, _⟩ := k1.own e o
        rw [hh1] at hh2; cases hh2
        exact g
    refine ⟨fun i n H => n = l.length - i ∧ i ≤ l.length ∧ ∃ ρ F acc accD, HLe F1 F ∧ F D = none ∧ Ok c (upd G D (.dK acc)) ρ σ H F ∧ RpKs c.K F acc accD ∧ acc.length ≤ i ∧ DcPost c G σ F Q (dcLoop own t mt (mFrz mk) (mFrz mv) (l.drop i) accD ρ),
      ⟨l.length, by simp, Nat.zero_le _, ρ', F1, [], [], HLe.refl F1, nF, k1', .nil, Nat.le_refl _, by simpa using p0⟩, ?_⟩
    rintro i n H ⟨rfl, hi, ρ, F, acc, accD, le, hFD, k, ra, hla, hp⟩
    obtain ⟨w1, w2⟩ := w i H F le k.fh
    have hHD : H D = some (.dK acc) := k.gh D _ upd_same
    by_cases hlt : i < l.length
    · have hd : l[i]? = some l[i] := List.getElem?_eq_getElem hlt
      obtain ⟨go, y⟩ := w1 _ hd
      rw [drop_cons hd] at hp
      refine .inr ⟨go, fun H' => ∃ ρ F acc accD, HLe F1 F ∧ F D = none ∧ Ok c (upd G D (.dK acc)) ρ σ H' F ∧ RpKs c.K F acc accD ∧ acc.length ≤ i + 1 ∧ DcPost c G σ F Q (dcLoop own t mt (mFrz mk) (mFrz mv) (l.drop (i + 1)) accD ρ),
        fun H' ⟨ρ, F, acc, accD, a1, a2, a3, a4, a5, a6⟩ => ⟨l.length - (i + 1), by omega, rfl, hlt, ρ, F, acc, accD, a1, a2, a3, a4, a5, a6⟩, fun x H' yy => ?_⟩
      obtain ⟨F2, gr, r2⟩ := y x H' yy
      have k2 := k.grow gr
      have hF2 : F2 D = none := by
        cases z : F2 D with
        | none => rfl
        | some u =>
          rcases gr.new D u z with z' | z'
          · rw [hFD] at z'; cases z'
          · rw [hHD] at z'; cases z'
      have eG : Ext G F F2 := le_updG nG (gr.ext k.gh)
      have keepD : ∀ {F F' : Hp}, F D = none → Ext (upd G D (.dK acc)) F F' → F' D = none := fun {F F'} h e => by
        cases z : F' D with
        | none => rfl
        | some u =>
          rcases e.new D u z with z' | z'
          · rw [h] at z'; cases z'
          · rw [upd_same] at z'; cases z'
      unfold dcLoop at hp
      cases z1 : wipeR own ρ with
      | none => simp only [z1] at hp; exact hp.elim
      | some ρ0 =>
        simp only [z1] at hp
        have k3 := k2.wipe z1
        cases z2 : t l[i] ρ0 with
        | none => simp only [z2] at hp; exact hp.elim
        | some ρ1 =>
          simp only [z2] at hp
          refine ⟨ρ0, F2, upd G D (.dK acc), l[i], ρ1, k3.toBlk, r2, z2, fun σ2 hl2 ho2 k4 => ?_⟩
          refine ⟨wipe_wipe hl2 ho2 hs, ρ1, F2, upd G D (.dK acc), k4, ?_⟩
          have hl2' : σ2.length = σ.length := by rw [hl2, wipe_length]
          have ho2' : ∀ j, j ∉ own → σ2[j]? = σ[j]? := fun j hj => by
            rw [ho2 j fun z => hj (hs j z), wipe_at, if_neg hj]
          cases z3 : mt ρ1 with
          | bad => simp only [z3] at hp; exact hp
          | exc x ρ3 => simp only [z3] at hp; exact fun H' F' _ _ => hp.elim
          | ok b ρ2 =>
            intro b' H3 F3 e3 k5 rb
            have rb : b' = b := rb
            subst rb
            have hF3 := keepD hF2 e3
            cases b' with
            | false =>
              simp only [z3] at hp
              rw [if_neg Bool.false_ne_true]
              have k6 : Ok c (upd G D (.dK acc)) (unwipe own ρ ρ2) σ H3 F3 := Ok.unwipe (is := is) k2 z1 k5.ofBlk e3.le hl2' ho2'
              exact ⟨_, F3, acc, accD, le.trans (gr.ff.trans e3.le), hF3, k6, RpKs.le (gr.ff.trans e3.le) ra, by omega, hp.ext (eG.trans (le_updG nG e3))⟩
            | true =>
              simp only [z3] at hp
              rw [if_pos rfl]
              refine ⟨ρ2, F3, upd G D (.dK acc), k5, ?_⟩
              cases z4 : mFrz mk ρ2 with
              | bad => simp only [z4] at hp; exact hp
              | exc x ρ3 => simp only [z4] at hp; exact fun H' F' _ _ => hp.elim
              | ok kd ρ3 =>
                simp only [z4] at hp
                intro y H4 F4 e4 k7 rk
                have hF4 := keepD hF3 e4
                refine ⟨ρ3, F4, upd G D (.dK acc), k7, ?_⟩
                cases z5 : mFrz mv ρ3 with
                | bad => simp only [z5] at hp; exact hp
                | exc x ρ3 => simp only [z5] at hp; exact fun H' F' _ _ => hp.elim
                | ok vd ρ4 =>
                  simp only [z5] at hp
                  intro v H5 F5 e5 k8 rv
                  have hF5 := keepD hF4 e5
                  cases z6 : toKey kd with
                  | none => simp only [z6] at hp; exact hp.elim
                  | some kk =>
                    simp only [z6] at hp
                    have ey : y = kV kk := by
                      have rk : Rp c.K F4 y kd := rk
                      rw [toKey_is z6] at rk
                      exact rpK_key rk
                    refine ⟨acc, kk, ey, k8.gh D _ upd_same, by omega, ?_⟩
                    have k9 : Ok c (upd G D (.dK acc)) (unwipe own ρ ρ4) σ H5 F5 := Ok.unwipe (is := is) k2 z1 k8.ofBlk ((e3.le.trans e4.le).trans e5.le) hl2' ho2'
                    have lle := ((gr.ff.trans e3.le).trans e4.le).trans e5.le
                    have e6 : Ext G F F5 := (((eG.trans (le_updG nG e3)).trans (le_updG nG e4))).trans (le_updG nG e5)
                    exact ⟨_, F5, putK acc kk v, _, le.trans lle, hF5, k9.grown hF5, (RpKs.le lle ra).put rv, by have := length_putK acc kk v; omega, hp.ext e6⟩
    · have ei : i = l.length := by omega
      subst ei
      rw [List.drop_length] at hp
      refine .inl ⟨w2 (Nat.le_refl _), ?_⟩
      have z := hp D acc (VL.hole H D) F (Ext.refl G F) (k.hole hFD nG) hole_same ra
      rw [hole_upd hHD] at z
      exact z
theorem vb_dc {own : List (Str × Nat)} {is : List Nat} {tg iter : Expr} {ifs : List Expr} {scope : Scope} {mi : M (List D)} {t : Tgt} {mt : M Bool} {mk mv : M R} {kx vx : Expr} (hc : X.calm = true) (hN : X.N.Nodup) (hi : PI X tg iter (tI c mi)) (ok : BlkOk X.N X.env.scope scope own)
    (hg : ∀ (s : Shared) (H : Hp) (C : Addr) (cl : List (Str × Addr)) (fp : List Addr), PG (X.blk s H scope (compEnvC scope cl C X.env) fp) tg (tG c.blk t is)) (ht : ∀ (s : Shared) (H : Hp) (C : Addr) (cl : List (Str × Addr)) (fp : List Addr), PTs (X.blk s H scope (compEnvC scope cl C X.env) fp) ifs (tT c.blk mt))
    (hk : ∀ (s : Shared) (H : Hp) (C : Addr) (cl : List (Str × Addr)) (fp : List Addr), PE (X.blk s H scope (compEnvC scope cl C X.env) fp) kx (tM c.blk mk)) (he : ∀ (s : Shared) (H : Hp) (C : Addr) (cl : List (Str × Addr)) (fp : List Addr), PE (X.blk s H scope (compEnvC scope cl C X.env) fp) vx (tM c.blk mv))
    (his : ∀ j ∈ is, j ∈ own.map (·.2)) (hs : ∀ x, foldedSetIterable iter X.env x = pure x := by intro _; rfl) :
    PE X (.DictComp kx vx [⟨tg, iter, ifs, 0⟩] scope pos) (tB c (mDc (own.map (·.2)) mi t mt mk mv)) :=
  pe_weak (pe_dc hc hN hi ok hg ht (fun s H C cl fp => ve_frz (hk s H C cl fp)) (fun s H C cl fp => ve_frz (he s H C cl fp)) hs) fun σ H Q h => dc_of his h
theorem ps_setDc {i : Nat} {y : Str} {py : Pos} {kx vx tg iter : Expr} {ifs : List Expr} {scope : Scope} {own : List (Str × Nat)} {pos spos : Pos} {wi : TI} {g : TG} {tt : TT} {tk tv : TE} (hc : X.calm = true) (hN : X.N.Nodup) (hy : X.N[i]? = some y) (hyl : X.env.scope.names.lookup y = some .local)
    (hsw : swapsWith (.DictComp kx vx [⟨tg, iter, ifs, 0⟩] scope pos) (some (.Name y py)) spos.line X.env = pure true) (hi : PI X tg iter wi) (ok : BlkOk X.N X.env.scope scope own)
    (hg : ∀ (s : Shared) (H : Hp) (C : Addr) (cl : List (Str × Addr)) (fp : List Addr), PG (X.blk s H scope (compEnvC scope cl C X.env) fp) tg g) (ht : ∀ (s : Shared) (H : Hp) (C : Addr) (cl : List (Str × Addr)) (fp : List Addr), PTs (X.blk s H scope (compEnvC scope cl C X.env) fp) ifs tt)
    (hk : ∀ (s : Shared) (H : Hp) (C : Addr) (cl : List (Str × Addr)) (fp : List Addr), PE (X.blk s H scope (compEnvC scope cl C X.env) fp) kx tk)
    (he : ∀ (s : Shared) (H : Hp) (C : Addr) (cl : List (Str × Addr)) (fp : List Addr), PE (X.blk s H scope (compEnvC scope cl C X.env) fp) vx tv) (hs : ∀ x, foldedSetIterable iter X.env x = pure x := by intro _; rfl) :
    PS X (.Assign [.Name y py] (.DictComp kx vx [⟨tg, iter, ifs, 0⟩] scope pos) spos) (tAsg (tDc wi g tt tk tv (own.map (·.2))) (gName i)) := by
  refine ⟨fun pins s σ H D I h => ?_⟩
  rw [exec_Assign_Name_used _ _ _ _ hsw]
  refine wpAny_bind (wpAny_standAt (wpAny_bind ?_))
  show wpAny _ X.A (do let _ ← comprehension (.DictComp kx vx [⟨tg, iter, ifs, 0⟩] scope pos) scope X.env (firstIterPos [⟨tg, iter, ifs, 0⟩] pos) newDict false (eval iter X.env) (some (assign (.Name y py) X.env))) _ _ s
  have h : tDc wi g tt tk tv (own.map (·.2)) σ H (fun x H1 => gName i x σ H1 D.nx) := h
  refine wpAny_bind (thn (dc_core (Qf := fun _ s' => SP X pins D .next s') hc hN I hi ok hg ht hk he hs h fun L C s' m H' I' q hn f => ?_) fun _ s' hq => wpAny_pure (wpAny_pure hq))
  show wpAny _ _ (assign (.Name y py) X.env (.ref L)) _ _ _
  refine wpAny_assign_Name (store_ok2 (v := V.ref L) I' hN hy (.inl hyl) rfl (fun s2 I2 ⟨a, sb, ha⟩ => ?_) (.inr hyl))
  obtain ⟨f0, f1, f2, f3, f4, f5⟩ := f
  have haC : C ≠ a := by
    rcases ha with z | z
    · rw [z]; exact f1
    · exact fun e => f4 y a z e.symm
  refine ⟨m, hn.sameBut sb haC, fun h3 sb3 => ?_⟩
  exact ⟨_, H', I2.turned (t' := s2.toks) (fun b o hb e => (sb3.2 b hb).trans e) f0 f1 f3 f4 f5, q⟩
theorem sw_trueD {kx vx : Expr} {gs : List Comprehension} {scope : Scope} {pos py : Pos} {y : Str} {l : Nat} {env : Env} (hk : env.scope.kind = .function) (hy : env.scope.names.lookup y = some .local) (hl : (py.line == pos.line) = true)
    (ha : (scope.names.any fun (n, k) => n == y && (k == .local || k == .cell)) = false) : swapsWith (.DictComp kx vx gs scope pos) (some (.Name y py)) l env = pure true := by
  have ky : env.kindOf y = some .local := hy
  have hb : env.blockKind = .function := by unfold Env.blockKind; rw [hk]; rfl
  unfold swapsWith
  simp only [hb, ky, ha, Expr.pos, hl]
  rfl
theorem vs_setDc {i : Nat} {y : Str} {py spos : Pos} {own : List (Str × Nat)} {is : List Nat} {tg iter : Expr} {ifs : List Expr} {scope : Scope} {mi : M (List D)} {t : Tgt} {mt : M Bool} {mk mv : M R} {kx vx : Expr} (hc : X.calm = true) (hN : X.N.Nodup) (hy : X.N[i]? = some y) (hyl : X.env.scope.names.lookup y = some .local)
    (hsw : swapsWith (.DictComp kx vx [⟨tg, iter, ifs, 0⟩] scope pos) (some (.Name y py)) spos.line X.env = pure true) (hi : PI X tg iter (tI c mi)) (ok : BlkOk X.N X.env.scope scope own)
    (hg : ∀ (s : Shared) (H : Hp) (C : Addr) (cl : List (Str × Addr)) (fp : List Addr), PG (X.blk s H scope (compEnvC scope cl C X.env) fp) tg (tG c.blk t is)) (ht : ∀ (s : Shared) (H : Hp) (C : Addr) (cl : List (Str × Addr)) (fp : List Addr), PTs (X.blk s H scope (compEnvC scope cl C X.env) fp) ifs (tT c.blk mt))
    (hk : ∀ (s : Shared) (H : Hp) (C : Addr) (cl : List (Str × Addr)) (fp : List Addr), PE (X.blk s H scope (compEnvC scope cl C X.env) fp) kx (tM c.blk mk)) (he : ∀ (s : Shared) (H : Hp) (C : Addr) (cl : List (Str × Addr)) (fp : List Addr), PE (X.blk s H scope (compEnvC scope cl C X.env) fp) vx (tM c.blk mv))
    (his : ∀ j ∈ is, j ∈ own.map (·.2)) (hs : ∀ x, foldedSetIterable iter X.env x = pure x := by intro _; rfl) :
    PS X (.Assign [.Name y py] (.DictComp kx vx [⟨tg, iter, ifs, 0⟩] scope pos) spos) (tAsg (tB c (mDc (own.map (·.2)) mi t mt mk mv)) (gName i)) :=
  tAsg_weak (ps_setDc hc hN hy hyl hsw hi ok hg ht (fun s H C cl fp => ve_frz (hk s H C cl fp)) (fun s H C cl fp => ve_frz (he s H C cl fp)) hs) fun σ H Q h => dc_of his h

/-! ### {k: v, ..}, keys ints or texts -/
def mPairs : List (M R × M R) → M (List (D × D))
  | [] => mPure []
  | (mk, mv) :: r => mBind (mFrz mk) fun k => mBind (mFrz mv) fun v => mBind (mPairs r) fun es => mPure ((k, v) :: es)
def keyed : List (D × D) → Option (List (Key × D))
  | [] => some []
  | (k, v) :: r => match toKey k, keyed r with
    | some kk, some es => some ((kk, v) :: es)
    | _, _ => none
def mDisp (ps : List (M R × M R)) : M Box := mBind (mPairs ps) fun es ρ => match keyed es with
  | some ks => .ok (.dk (ks.foldl (fun acc p => putE toKey keyD p.1 p.2 acc) [])) ρ
  | none => .bad
/-- pairs in the heap -/
inductive RpPs (K : PySem.W.Frag) (F : Hp) : List (V × V) → List (D × D) → Prop
  | nil : RpPs K F [] []
  | cons {x y : V} {d e : D} {ps : List (V × V)} {es : List (D × D)} : Rp K F x d → Rp K F y e → RpPs K F ps es → RpPs K F ((x, y) :: ps) ((d, e) :: es)
theorem RpPs.le {K : PySem.W.Frag} {F F' : Hp} (e : HLe F F') : ∀ {ps : List (V × V)} {es : List (D × D)}, RpPs K F ps es → RpPs K F' ps es
  | _, _, .nil => .nil
  | _, _, .cons a b r => .cons (a.le e) (b.le e) (r.le e)
def RepPs (c : Vx) (_ : Rho) (F : Hp) (es : List (D × D)) (ps : List (V × V)) : Prop := RpPs c.K F ps es
def tPs (c : Vx) : List (M R × M R) → List (TE × TE)
  | [] => []
  | (mk, mv) :: r => (tD c (mFrz mk), tD c (mFrz mv)) :: tPs c r
theorem pairs_of : ∀ {ps : List (M R × M R)} {σ : L2.St} {H : Hp} {Q : List (V × V) → Hp → Prop}, tX c (mPairs ps) (RepPs c) σ H Q → tPairs (tPs c ps) σ H Q
  | [], σ, H, Q, ⟨ρ, F, G, k, h⟩ => h [] H F (Ext.refl G F) k .nil
  | (mk, mv) :: r, σ, H, Q, ⟨ρ, F, G, k, h⟩ => by
    have h : Wn c G σ F (RepPs c) Q (mBind (mFrz mk) (fun k => mBind (mFrz mv) fun v => mBind (mPairs r) fun es => mPure ((k, v) :: es)) ρ) := h
    refine ⟨ρ, F, G, k, (Wn.bind (rep := RepD c) h).imp fun x H1 ⟨ρ1, F1, kd, e1, k1, r1, h1⟩ => ?_⟩
    refine ⟨ρ1, F1, G, k1, (Wn.bind (rep := RepD c) h1).imp fun y H2 ⟨ρ2, F2, vd, e2, k2, r2, h2⟩ => ?_⟩
    refine pairs_of (ps := r) ⟨ρ2, F2, G, k2, (Wn.bind (rep := RepPs c) h2).imp fun ps H3 ⟨ρ3, F3, es, e3, k3, r3, h3⟩ => ?_⟩
    exact h3 ((x, y) :: ps) H3 F3 (Ext.refl G F3) k3 (.cons (Rp.le (e2.le.trans e3.le) r1) (Rp.le e3.le r2) r3)
theorem keyed_of {K : PySem.W.Frag} {F : Hp} : ∀ {ps : List (V × V)} {es : List (D × D)} {ks : List (Key × D)}, RpPs K F ps es → keyed es = some ks → ∃ kvs : List (Key × V), ps = kvs.map (fun kv => (kV kv.1, kv.2)) ∧ kvs.length = ps.length ∧
    ∀ {acc : List (Key × V)} {ac : List (D × D)}, RpKs K F acc ac → RpKs K F (mergeK acc kvs) (ks.foldl (fun acc p => putE toKey keyD p.1 p.2 acc) ac)
  | _, _, _, .nil, e => by cases e; exact ⟨[], rfl, rfl, fun r => r⟩
  | _, _, ks, @RpPs.cons _ _ x y d e ps es a b r, q => by
    unfold keyed at q
    cases q1 : toKey d with
    | none => simp only [q1] at q; cases q
    | some k =>
      cases q2 : keyed es with
      | none => simp only [q1, q2] at q; cases q
      | some ks' =>
        simp only [q1, q2] at q
        cases q
        obtain ⟨kvs, h1, h2, h3⟩ := keyed_of r q2
        rw [toKey_is q1] at a
        have ex := rpK_key a
        subst ex
        exact ⟨(k, y) :: kvs, by rw [h1]; rfl, by simp [h2], fun ra => h3 (ra.put b)⟩
theorem vb_disp {keys : List (Option Expr)} {values : List Expr} {ps : List (M R × M R)} (h : PPs X pos keys values (tPs c ps)) (hall : keys.all (·.isSome) = true) (hl : keys.length = values.length) (h0 : keys ≠ []) (h15 : keys.length ≤ 15) (hp : ps.length ≤ 15) : PE X (.Dict keys values pos) (tB c (mDisp ps)) :=
  pe_weak (pe_disp h hall hl h0 h15) fun σ H Q ⟨ρ, F, G, k, h⟩ => fun D hD => by
    have nF : F D = none := k.fh.free hD
    have nG : G D = none := k.gh.free hD
    have k1 : Ok c (upd G D (.dK [])) ρ σ (upd H D (.dK [])) F := by
      have nown : ∀ i a, OwnAt ρ σ i a → a ≠ D := fun i a ⟨⟨s, e, ho⟩, hh1⟩ => by
        obtain ⟨a', l, _, hh2, ⟨_, _, us, hh3, _⟩, _⟩ := k.own e ho
        rw [hh1] at hh2; cases hh2
        exact ne_of_none hh3 hD
      have gr : Grow H F (upd H D (.dK [])) F := ⟨HLe.put hD, HLe.refl _, k.fh.trans (HLe.put hD), fun b o q => .inl q⟩
      refine (k.grow gr).reG (fun b o e => ?_) fun i a ho => ?_
      · by_cases eb : b = D
        · subst eb; rw [upd_same] at e ⊢; exact e
        · rw [upd_ne eb] at e ⊢; exact k.gh b o e
      · rw [upd_ne (nown i a ho)]
        obtain ⟨⟨s, e, o⟩, hh1⟩ := ho
        obtain ⟨a', l, _, hh2, ⟨_, g, _⟩, _⟩ := k.own e o
        rw [hh1] at hh2; cases hh2
        exact g
    unfold mDisp mBind at h
    refine pairs_of ⟨ρ, F, upd G D (.dK []), k1, ?_⟩
    have plen : ∀ {ps : List (M R × M R)} {ρ ρ' : Rho} {es : List (VL.D × VL.D)}, mPairs ps ρ = .ok es ρ' → es.length = ps.length := by
      intro ps
      induction ps with
      | nil => intro ρ ρ' es e; cases e; rfl
      | cons p r ih =>
        obtain ⟨mk, mv⟩ := p
        intro ρ ρ' es e
        unfold mPairs mBind at e
        cases z1 : mFrz mk ρ with
        | bad => simp only [z1] at e; cases e
        | exc x ρ1 => simp only [z1] at e; cases e
        | ok kd ρ1 =>
          simp only [z1] at e
          cases z2 : mFrz mv ρ1 with
          | bad => simp only [z2] at e; cases e
          | exc x ρ1 => simp only [z2] at e; cases e
          | ok vd ρ2 =>
            simp only [z2] at e
            cases z3 : mPairs r ρ2 with
            | bad => simp only [z3] at e; cases e
            | exc x ρ1 => simp only [z3] at e; cases e
            | ok es' ρ3 => simp only [z3, mPure] at e; cases e; simp [ih z3]
    cases q : mPairs ps ρ with
    | bad => simp only [q] at h; exact h
    | exc x ρ' =>
      simp only [q] at h
      exact fun H' F' e k' => h H' F' (le_updG nG e) (k'.reG (fun b o z => k'.gh b o (by rw [upd_ne (fun zz => by rw [zz, nG] at z; cases z)]; exact z)) fun i a ho => by
        obtain ⟨⟨s, e, o⟩, hh1⟩ := ho
        obtain ⟨a', l, _, hh2, ⟨_, g, _⟩, _⟩ := k'.own e o
        rw [hh1] at hh2; cases hh2
        by_cases eb : a = D
        · subst eb; exact nG
        · rw [upd_ne eb] at g; exact g)
    | ok es ρ' =>
      simp only [q] at h
      intro pp H' F' e k' r
      have r : RpPs c.K F' pp es := r
      have hF' : F' D = none := by
        cases z : F' D with
        | none => rfl
        | some u =>
          rcases e.new D u z with z' | z'
          · rw [nF] at z'; cases z'
          · rw [upd_same] at z'; cases z'
      have hHD : H' D = some (.dK []) := k'.gh D _ upd_same
      cases q2 : keyed es with
      | none => simp only [q2] at h; exact h.elim
      | some ks =>
        simp only [q2] at h
        obtain ⟨kvs, h1, h2, h3⟩ := keyed_of r q2
        have rl : ∀ {ps : List (V × V)} {es : List (VL.D × VL.D)}, RpPs c.K F' ps es → ps.length = es.length := by
          intro ps es r
          induction r with
          | nil => rfl
          | cons _ _ _ ih => simp [ih]
        refine ⟨hHD, kvs, h1, by rw [h2, rl r, plen q]; exact hp, ?_⟩
        have z := h D (.dK (mergeK [] kvs)) (VL.hole H' D) F' (le_updG nG e) (k'.hole hF' nG) hole_same ⟨_, rfl, h3 .nil⟩
        have eh : upd (VL.hole H' D) D (.dK (mergeK [] kvs)) = upd H' D (.dK (mergeK [] kvs)) := by
          funext b
          by_cases eb : b = D
          · subst eb; rw [upd_same, upd_same]
          · rw [upd_ne eb, upd_ne eb, hole_ne eb]
        rw [eh] at z
        exact z
end
end VL

set_option Elab.async false
set_option linter.all false
set_option autoImplicit false
set_option maxRecDepth 100000
namespace VL
open PySem PySem.Spec PyProof.Rows L2
section
variable {X : Cx} {c : Vx} {G : Hp} {ρ : Rho} {σ : L2.St} {H F F1 : Hp}
variable {a b e o : Expr} {es rest : List Expr} {p pos apos cpos : Pos} {m n : M R} {st : Stmt} {ms : M (List R)}

/-! ### x in range(n), x not in range(n) -/
theorem op_notIn_rng : OpR X (compareOp .NotIn) (fun x y H Q => ∃ i a lo hi, x = V.int i ∧ y = V.ref a ∧ H a = some (.rng lo hi) ∧ Q (.bl (!decide (lo ≤ i ∧ i < hi))) H) := by
  intro pins s σ H x y v u Q I rx ry h
  obtain ⟨i, a, lo, hi, rfl, rfl, ha, q⟩ := h
  obtain ⟨k, rfl⟩ := rx
  obtain rfl : u = Value.ref a := ry
  obtain ⟨t1, t2, t3, ho⟩ := I.hok a _ ha
  show wpAny _ _ (do return Value.bool (!(← contains (Value.ref a) (Value.int i k)))) _ _ s
  refine wpAny_bind (wpAny_contains_slot (T := "range") ⟨_, ho, rfl⟩ F.slot_range_contains (call_meets F.slot_range_contains ⟨_, ho, rfl⟩ F.entry_range_contains (F.args_range_contains_2 _ _) (q_contains a lo hi i t1 t2 t3 k)
    ⟨ho, wpAny_truthy_bool (wpAny_pure ⟨.bl _, H, I, rfl, ?_⟩)⟩))
  rw [place1]
  exact q
theorem cr_range1 : CallR X (.type "range") (fun vs H Q => ∃ j, vs = [V.int j] ∧ ∀ p, H p = none → Q (.ref p) (upd H p (.rng 0 j))) := by
  intro pins s σ H vs us Q I r h
  obtain ⟨j, rfl, q⟩ := h
  obtain ⟨u1, rfl, ri⟩ := vals1 r
  obtain ⟨t, rfl⟩ := ri
  refine call_range_1 ⟨.ref s.heap.objs.size, upd H s.heap.objs.size (.rng 0 j), I.laid (t' := s.toks + 1 + 1) (fun b o e => Heap.get?_push_of_some _ e) (Nat.le_refl _) ?_, rfl, q _ (I.hok.fresh (Nat.le_refl _))⟩
  exact ⟨_, _, _, Heap.get?_push_size _ rfl⟩
def rangeOf : List D → Option (Int × Int)
  | [.int j] => some (0, j)
  | [.int i, .int j] => some (i, j)
  | _ => none
def mInR (neg : Bool) (m : M R) (ms : M (List R)) : M R := mBind m fun r => mBind ms fun rs ρ => match look ρ r, looks ρ rs with
  | some (.int i), some ds => (match rangeOf ds with
    | some (lo, hi) => .ok (.v (.bool (if neg = true then !decide (lo ≤ i ∧ i < hi) else decide (lo ≤ i ∧ i < hi)))) ρ
    | none => .bad)
  | _, _ => .bad
def rRangeV : List V → Hp → VK → Prop := fun xs H Q => (∃ j, xs = [V.int j] ∧ ∀ p, H p = none → Q (.ref p) (upd H p (.rng 0 j))) ∨ ∃ i j, xs = [V.int i, V.int j] ∧ ∀ p, H p = none → Q (.ref p) (upd H p (.rng i j))
theorem cr_rangeV : CallR X (.type "range") rRangeV := cr_range1.or cr_range2
theorem inR_of {neg : Bool} {op : CmpOp} {Q : VK} (hop : (neg = false ∧ op = .In) ∨ (neg = true ∧ op = .NotIn)) (h : tM c (mInR neg m ms) σ H Q) :
    tOp (fun x y H Q => ∃ i a lo hi, x = V.int i ∧ y = V.ref a ∧ H a = some (.rng lo hi) ∧ Q (.bl (if neg = true then !decide (lo ≤ i ∧ i < hi) else decide (lo ≤ i ∧ i < hi))) H) (tM c m) (tCB rRangeV (tA c ms)) σ H Q := by
  obtain ⟨ρ, F, G, k, h⟩ := h
  refine ⟨ρ, F, G, k, (Wn.bind (rep := RepR c σ) h).imp fun x H1 ⟨ρ1, F1, r, e1, k1, r1, h1⟩ => ?_⟩
  refine ⟨ρ1, F1, G, k1, (Wn.bind (rep := RepRs c σ) h1).imp fun xs H2 ⟨ρ2, F2, rs, e2, k2, r2, h2⟩ => ?_⟩
  cases q1 : look ρ2 r with
  | none => simp only [q1] at h2; exact h2.elim
  | some d =>
    cases d with
    | int i =>
      cases q2 : looks ρ2 rs with
      | none => simp only [q1, q2] at h2; exact h2.elim
      | some ds =>
        simp only [q1, q2] at h2
        cases q3 : rangeOf ds with
        | none => simp only [q3] at h2; exact h2.elim
        | some z =>
          obtain ⟨lo, hi⟩ := z
          simp only [q3] at h2
          have ex : x = .int i := by
            have := look_dq k2 (r1.mono (F' := F2) (ρ' := ρ2) e2.le) q1
            cases (show Rp c.K F2 x (.int i) from this)
            rfl
          subst ex
          have fin : ∀ p, H2 p = none → ∃ i' a lo' hi', V.int i = V.int i' ∧ V.ref p = V.ref a ∧ (upd H2 p (.rng lo hi)) a = some (.rng lo' hi') ∧ Q (.bl (if neg = true then !decide (lo' ≤ i' ∧ i' < hi') else decide (lo' ≤ i' ∧ i' < hi'))) (upd H2 p (.rng lo hi)) := fun p hp => by
            have gr : Grow H2 F2 (upd H2 p (.rng lo hi)) F2 := ⟨HLe.put hp, HLe.refl _, k2.fh.trans (HLe.put hp), fun b o q => .inl q⟩
            exact ⟨i, p, lo, hi, rfl, rfl, upd_same, h2 _ _ F2 (Ext.refl G F2) (k2.grow gr) (.bl _)⟩
          have dq := looks_dq k2 r2 q2
          unfold rangeOf at q3
          split at q3
          · cases q3
            obtain ⟨y, rfl, hy⟩ := dq1 dq
            cases (show Rp c.K F2 y _ from hy)
            exact .inl ⟨_, rfl, fin⟩
          · cases q3
            obtain ⟨y, z, rfl, hy, hz⟩ := dq2 dq
            cases (show Rp c.K F2 y _ from hy)
            cases (show Rp c.K F2 z _ from hz)
            exact .inr ⟨_, _, rfl, fin⟩
          · cases q3
    | _ => simp only [q1] at h2; exact h2.elim
theorem ve_inR (hg : Gl X "range") (hm : X.mg "range" = none) (ha : PE X a (tM c m)) (hb : PA X (e :: es) (tA c ms)) (he : starEach (e :: es) X.env = (false, eval e X.env) :: starEach es X.env := by rfl) (hpl : (backTo cpos (starEach es X.env)).any (·.1) = false := by rfl) (hmk : behindInMarks .In (.Call (.Name "range" p) (e :: es) [] cpos) = false := by rfl) :
    PE X (.Compare a [.In] [.Call (.Name "range" p) (e :: es) [] cpos] pos) (tM c (mInR false m ms)) :=
  pe_weak (pe_cmpR op_in_rng ha (pe_callTy cr_rangeV hg hm (by rfl) hb (by decide) (by decide) he hpl) hmk) fun σ H Q h => inR_of (neg := false) (op := .In) (.inl ⟨rfl, rfl⟩) h
theorem ve_notInR (hg : Gl X "range") (hm : X.mg "range" = none) (ha : PE X a (tM c m)) (hb : PA X (e :: es) (tA c ms)) (he : starEach (e :: es) X.env = (false, eval e X.env) :: starEach es X.env := by rfl) (hpl : (backTo cpos (starEach es X.env)).any (·.1) = false := by rfl) (hmk : behindInMarks .NotIn (.Call (.Name "range" p) (e :: es) [] cpos) = false := by rfl) :
    PE X (.Compare a [.NotIn] [.Call (.Name "range" p) (e :: es) [] cpos] pos) (tM c (mInR true m ms)) :=
  pe_weak (pe_cmpR op_notIn_rng ha (pe_callTy cr_rangeV hg hm (by rfl) hb (by decide) (by decide) he hpl) hmk) fun σ H Q h => inR_of (neg := true) (op := .NotIn) (.inr ⟨rfl, rfl⟩) h
theorem vt_inR (hg : Gl X "range") (hm : X.mg "range" = none) (ha : PE X a (tM c m)) (hb : PA X (e :: es) (tA c ms)) (he : starEach (e :: es) X.env = (false, eval e X.env) :: starEach es X.env := by rfl) (hpl : (backTo cpos (starEach es X.env)).any (·.1) = false := by rfl) (hmk : behindInMarks .In (.Call (.Name "range" p) (e :: es) [] cpos) = false := by rfl) :
    PT X (.Compare a [.In] [.Call (.Name "range" p) (e :: es) [] cpos] pos) (tT c (mB (mInR false m ms))) :=
  pt_weak (pt_cmpR op_in_rng ha (pe_callTy cr_rangeV hg hm (by rfl) hb (by decide) (by decide) he hpl) hmk) fun σ H Q h => inR_of (neg := false) (op := .In) (.inl ⟨rfl, rfl⟩) (mB_end h)
theorem vt_notInR (hg : Gl X "range") (hm : X.mg "range" = none) (ha : PE X a (tM c m)) (hb : PA X (e :: es) (tA c ms)) (he : starEach (e :: es) X.env = (false, eval e X.env) :: starEach es X.env := by rfl) (hpl : (backTo cpos (starEach es X.env)).any (·.1) = false := by rfl) (hmk : behindInMarks .NotIn (.Call (.Name "range" p) (e :: es) [] cpos) = false := by rfl) :
    PT X (.Compare a [.NotIn] [.Call (.Name "range" p) (e :: es) [] cpos] pos) (tT c (mB (mInR true m ms))) :=
  pt_weak (pt_cmpR op_notIn_rng ha (pe_callTy cr_rangeV hg hm (by rfl) hb (by decide) (by decide) he hpl) hmk) fun σ H Q h => inR_of (neg := true) (op := .NotIn) (.inr ⟨rfl, rfl⟩) (mB_end h)

/-! ### t.index(x), t a tuple of the module -/
structure GT (K : PySem.W.Frag) (mg : Str → Option Value) (x : Str) (l : List D) : Prop where
  get : ∃ a o, mg x = some (.ref a) ∧ K.lookup a = some o ∧ o.cls = .type "tuple" ∧ o.dict = none ∧ ∀ F, Rp K F (.ref a) (.tuple l)
def strsD : List D → Option (List Str)
  | [] => some []
  | .str i :: r => (strsD r).map (i :: ·)
  | _ :: _ => none
theorem strsD_is : ∀ {l : List D} {ns : List Str}, strsD l = some ns → l = ns.map PyData.str
  | [], ns, h => by cases h; rfl
  | d :: r, ns, h => by
    cases d with
    | str i =>
      unfold strsD at h
      cases q : strsD r with
      | none => rw [q] at h; cases h
      | some ms => rw [q] at h; cases h; rw [strsD_is q]; rfl
    | _ => cases h
theorem rpAll_strs {K : PySem.W.Frag} {F : Hp} : ∀ {ns : List Str} {vs : List V}, RpAll K F vs (ns.map PyData.str) → vs = ns.map V.str
  | [], _, h => by cases h; rfl
  | n :: r, _, h => by
    cases h with
    | cons h1 h2 => cases h1; rw [rpAll_strs h2]; rfl
def gIndex (l : List D) : List D → Option D
  | [.int k] => (match intsD l with
    | some ns => if k ∈ ns then some (.int (ns.idxOf k : Nat)) else none
    | none => none)
  | [.str k] => (match strsD l with
    | some ns => if k ∈ ns then some (.int (ns.idxOf k : Nat)) else none
    | none => none)
  | _ => none
def rIndexTC (K : PySem.W.Frag) : V → List V → Hp → VK → Prop := fun x xs H Q => ∃ p, x = .ref p ∧ ((∃ (ns : List Int) (k : Int), xs = [.int k] ∧ SqT K H p (ns.map V.int) ∧ k ∈ ns ∧ Q (.int (ns.idxOf k : Nat)) H) ∨ ∃ (ns : List Str) (k : Str), xs = [.str k] ∧ SqT K H p (ns.map V.str) ∧ k ∈ ns ∧ Q (.int (ns.idxOf k : Nat)) H)
theorem vals_ints {ns : List Int} {us : List Value} (r : Vals (ns.map V.int) us) : IntsAre us ns := r.ints
theorem vals_strs : ∀ {ns : List Str} {us : List Value}, Vals (ns.map V.str) us → PyProof.Rows.StrsAre us ns
  | [], us, h => by cases h; exact .nil
  | n :: r, us, h => by
    cases h with
    | cons h1 h2 =>
      obtain ⟨t, rfl⟩ := h1
      exact .cons _ _ (vals_strs h2)
theorem mt_indexTC : MtR X "tuple.index" (rIndexTC X.K) := by
  intro pins s σ H x xs v us Q I rx rs h
  obtain ⟨p, rfl, ⟨ns, k, rfl, hq, hk, q⟩ | ⟨ns, k, rfl, hq, hk, q⟩⟩ := h
  · cases rx
    obtain ⟨u, rfl, t, rfl⟩ := vals1 rs
    obtain ⟨its, r, pl, hz⟩ := I.tuple hq
    exact PySem.SeqAt.tuple_index_ints (show s.heap.IsTuple p its.toArray from pl) r.ints hk ⟨.int _, H, I.tok _, ⟨_, rfl⟩, q⟩
  · cases rx
    obtain ⟨u, rfl, t, rfl⟩ := vals1 rs
    obtain ⟨its, r, pl, hz⟩ := I.tuple hq
    exact PySem.SeqAt.tuple_index_strs (show s.heap.IsTuple p its.toArray from pl) (vals_strs r) hk ⟨.int _, H, I.tok _, ⟨_, rfl⟩, q⟩
theorem ve_gidx {x : Str} {l : List D} (hK : X.K = c.K) (hg : Gl X x) (h : GT X.K X.mg x l) (ha : PA X [e] (tA c ms)) (hd : (x == ("__debug__" : Str)) = false := by decide)
    (hbase : attributeBase (.Name x p) "index" X.env (eval (.Name x p) X.env) = eval (.Name x p) X.env := by rfl)
    (hfew : ((backTo cpos (starEach [e] X.env)).all (fun x => !x.1) && (backToKw cpos (keywordEach [] X.env)).all (fun x => x.1.isSome)
      && decide (([e] : List Expr).length + ([] : List Keyword).length + (if ([] : List Keyword).isEmpty then 0 else 1) < 30)) = true := by rfl)
    (hline : (apos.endLine == cpos.line) = true := by rfl) (hs : starEach [e] X.env = (false, eval e X.env) :: starEach [] X.env := by rfl) (hplain : (backTo cpos (starEach [] X.env)).any (·.1) = false := by rfl) :
    PE X (.Call (.Attribute (.Name x p) "index" apos) [e] [] cpos) (tM c (mOpN (gIndex l) ms)) := by
  obtain ⟨a, o, h1, h2, h3, h4, h5⟩ := h.get
  refine pe_weak (pe_bm PySem.F.plainAttrs_tuple PySem.F.slot_tuple_index PySem.F.type_tuple_index mt_indexTC (pe_glob hg h1 (v := .ref a) rfl hd) ha hbase hfew hline hs hplain) fun σ H Q h => ?_
  refine ⟨.inr (.inl ⟨rfl, o, h2, h3, h4⟩), ?_⟩
  obtain ⟨ρ, F, G, k, h⟩ := many_of h
  refine ⟨ρ, F, G, k, h.imp fun xs H1 ⟨ρ1, F1, G1, rs, k1, r1, h1⟩ => ?_⟩
  cases q : looks ρ1 rs with
  | none => simp only [q] at h1; exact h1.elim
  | some ds =>
    simp only [q] at h1
    obtain ⟨d', e', f⟩ := fin1_ok h1 k1
    have dq := looks_dq k1 r1 q
    have hr := h5 F1
    cases hr with
    | tup q1 rr =>
      have sq := SqT.le k1.fh q1
      rw [← hK] at dq
      unfold gIndex at e'
      split at e'
      · split at e'
        · rename_i ns qi
          split at e'
          · rename_i hk
            cases e'
            obtain ⟨y, rfl, hy⟩ := dq1 dq
            cases (show Rp X.K F1 y _ from hy)
            rw [intsD_is qi] at rr
            rw [rpAll_ints rr] at sq
            exact ⟨a, rfl, .inl ⟨ns, _, rfl, sq, hk, f _ H1 F1 (Grow.refl k1.fh) (.int _)⟩⟩
          · cases e'
        · cases e'
      · split at e'
        · rename_i ns qi
          split at e'
          · rename_i hk
            cases e'
            obtain ⟨y, rfl, hy⟩ := dq1 dq
            cases (show Rp X.K F1 y _ from hy)
            rw [strsD_is qi] at rr
            rw [rpAll_strs rr] at sq
            exact ⟨a, rfl, .inr ⟨ns, _, rfl, sq, hk, f _ H1 F1 (Grow.refl k1.fh) (.int _)⟩⟩
          · cases e'
        · cases e'
      · cases e'

/-! ### x += e of ints -/
def gAddI : D → D → Option D
  | .int i, .int j => some (.int (i + j))
  | _, _ => none
theorem sim_addI {K : PySem.W.Frag} : Sim2 K (ipI fun i j => i + j) gAddI := by
  intro x y H F d e d' Q fh hx hy hg f
  unfold gAddI at hg
  split at hg
  · cases hg
    cases (show Rp K F x (.int _) from hx)
    cases (show Rp K F y (.int _) from hy)
    exact ⟨_, _, rfl, rfl, f _ H F (Grow.refl fh) (.int _)⟩
  · cases hg
theorem sim_subI {K : PySem.W.Frag} : Sim2 K (ipI fun i j => i - j) gSub := by
  intro x y H F d e d' Q fh hx hy hg f
  unfold gSub at hg
  split at hg
  · cases hg
    cases (show Rp K F x (.int _) from hx)
    cases (show Rp K F y (.int _) from hy)
    exact ⟨_, _, rfl, rfl, f _ H F (Grow.refl fh) (.int _)⟩
  · cases hg

/-! ### a def -/
theorem takes_no : Takes X (fun _ _ _ _ => False) := fun u s' ⟨_, _, _, _, _, _, _, _, _, _, _, _, _, _, _, _, w⟩ => w.elim
end
/-- a def's promise from its body's mirror -/
def fnM (n k : Nat) (m : MS) : Fn := fun args => m (args ++ List.replicate (n - k) .no)
theorem def_ok {P : Program} {w : World} {K : PySem.W.Frag} {mg : Str → Option Value} {base : Heap} {x qual : Str} {params : Arguments} {body : List Stmt} {scope : Scope} {f : Addr} {fd : FuncData} {cls : String → Value} {N ps : List Str} {k : Nat} {m : MS}
    (Fd : FunD K x qual params body scope [] [] f fd) (S : FnScope N ps scope) (hl : ps.length ≤ N.length)
    (hb : ∀ (cdv : Value) (A : Around) (outer : List Env) (s : Shared) (H : Hp) (E : XK) (io : Nat → Option Addr), Room k (A.deeper (envOfC qual scope s.heap.objs.size f cdv)) → Takes (cxOf (L2.CX P w) P w K mg base N qual scope f cdv A outer s H E) (fun cls d _ H => E cls d H) →
      PSs (cxOf (L2.CX P w) P w K mg base N qual scope f cdv A outer s H E) body (tS ⟨K, io, fun cls d _ H => E cls d H, cls⟩ m)) : FnOk P w K mg base (L2.CX P w) (k + 1) f fd ps (spM K cls (fnM N.length ps.length m) ps.length) := by
  refine Fd.ok S (fun vs H Q E h => ?_) fun cdv A outer s H vs Q E hr h => ?_
  · obtain ⟨args, F, h1, _, h2, _⟩ := h
    exact h2.len.trans h1
  · obtain ⟨c, h1, h2, h3, h4⟩ := def_of (N := N) (ps := ps) (mb := m) hl h
    obtain ⟨cK, cio, cW, ccls⟩ := c
    subst h1 h2 h3
    exact ⟨_, hb cdv A outer s H E cio hr (takes_of rfl rfl rfl rfl), h4⟩
end VL

set_option Elab.async false
set_option linter.all false
set_option autoImplicit false
set_option maxRecDepth 100000
namespace VL
open PySem PySem.Spec PyProof.Rows L2 He

/-! ### the module's data -/
mutual
def datB (K : PySem.W.Frag) : D → Value → Bool
  | .none, .none => true
  | .bool b, .bool c => b == c
  | .int i, .int j _ => decide (i = j)
  | .str x, .str y _ => decide (x = y)
  | .tuple ds, .ref a => match K.lookup a with
    | some ⟨.type c, none, .seq its _, _⟩ => decide (c = "tuple") && (decide (its.size ≤ sizeLine) && datsB K ds its.toList)
    | _ => false
  | _, _ => false
def datsB (K : PySem.W.Frag) : List D → List Value → Bool
  | [], [] => true
  | d :: ds, u :: us => datB K d u && datsB K ds us
  | _, _ => false
end
mutual
theorem datB_ok {K : PySem.W.Frag} : ∀ {d : D} {u : Value}, datB K d u = true → ∃ v, RelV v u ∧ ∀ F, Rp K F v d
  | .none, u, h => by cases u <;> first | exact ⟨.non, rfl, fun _ => .non⟩ | (simp [datB] at h)
  | .bool b, u, h => by
    cases u <;> first | (simp [datB] at h; subst h; exact ⟨.bl _, rfl, fun _ => .bl _⟩) | (simp [datB] at h)
  | .int i, u, h => by
    cases u <;> first | (simp [datB] at h; subst h; exact ⟨.int _, ⟨_, rfl⟩, fun _ => .int _⟩) | (simp [datB] at h)
  | .str i, u, h => by
    cases u <;> first | (simp [datB] at h; subst h; exact ⟨.str _, ⟨_, rfl⟩, fun _ => .str _⟩) | (simp [datB] at h)
  | .tuple ds, u, h => by
    cases u with
    | ref a =>
      rw [datB] at h
      cases q : K.lookup a with
      | none => rw [q] at h; cases h
      | some o =>
        obtain ⟨oc, od, dt, osl⟩ := o
        rw [q] at h
        cases oc with
        | type c =>
          cases od with
          | none =>
            cases dt with
            | seq its n =>
              obtain ⟨h1, h2⟩ := ba (show (decide (c = "tuple") && (decide (its.size ≤ sizeLine) && datsB K ds its.toList)) = true from h)
              obtain ⟨h3, h4⟩ := ba h2
              obtain ⟨vs, h5, h6⟩ := datsB_ok h4
              exact ⟨.ref a, rfl, fun F => .tup (.inr ⟨_, its, n, q, congrArg Value.type (of_decide_eq_true h1), rfl, of_decide_eq_true h3, h5⟩) (h6 F)⟩
            | _ => cases h
          | some a => cases dt <;> cases h
        | _ => cases od <;> cases dt <;> cases h
    | _ => simp [datB] at h
  | .list _, u, h => by cases u <;> simp [datB] at h
  | .dict _, u, h => by cases u <;> simp [datB] at h
theorem datsB_ok {K : PySem.W.Frag} : ∀ {ds : List D} {us : List Value}, datsB K ds us = true → ∃ vs, Vals vs us ∧ ∀ F, RpAll K F vs ds
  | [], [], _ => ⟨[], .nil, fun _ => .nil⟩
  | [], _ :: _, h => by simp [datsB] at h
  | _ :: _, [], h => by simp [datsB] at h
  | d :: ds, u :: us, h => by
    rw [datsB] at h
    obtain ⟨h1, h2⟩ := ba h
    obtain ⟨v, h3, h4⟩ := datB_ok h1
    obtain ⟨vs, h5, h6⟩ := datsB_ok h2
    exact ⟨v :: vs, .cons h3 h5, fun F => .cons (h4 F) (h6 F)⟩
end
def conB (K : PySem.W.Frag) (p : Str × D) : Bool := match PySem.W.nsIn K mainGlobals p.1 with
  | some (some u) => datB K p.2 u
  | _ => false
theorem con_ok {K : PySem.W.Frag} {h : Heap} {mg : Str → Option Value} (X : K.In h) (G : h.Ns mainGlobals mg) {x : Str} {d : D} (c : conB K (x, d) = true) : GC K mg x d := by
  unfold conB at c
  cases e : PySem.W.nsIn K mainGlobals x with
  | none => rw [e] at c; cases c
  | some o =>
    rw [e] at c
    cases o with
    | none => cases c
    | some u =>
      obtain ⟨v, h1, h2⟩ := datB_ok (show datB K d u = true from c)
      exact ⟨v, u, PySem.W.mg_of X G e, h1, h2⟩
theorem conT_ok {K : PySem.W.Frag} {h : Heap} {mg : Str → Option Value} (X : K.In h) (G : h.Ns mainGlobals mg) {x : Str} {ds : List D} (c : conB K (x, .tuple ds) = true) : GT K mg x ds := by
  unfold conB at c
  cases e : PySem.W.nsIn K mainGlobals x with
  | none => rw [e] at c; cases c
  | some o =>
    rw [e] at c
    cases o with
    | none => cases c
    | some u =>
      have c : datB K (.tuple ds) u = true := c
      obtain ⟨v, h1, h2⟩ := datB_ok c
      cases u with
      | ref a =>
        have ev : v = .ref a := by
          cases v <;> first | (cases h1; rfl) | (obtain ⟨_, z⟩ := (h1 : ∃ _, _); cases z) | cases h1
        subst ev
        rw [datB] at c
        cases q : K.lookup a with
        | none => rw [q] at c; cases c
        | some o =>
          obtain ⟨oc, od, dt, osl⟩ := o
          rw [q] at c
          cases oc with
          | type t =>
            cases od with
            | none =>
              cases dt with
              | seq its n =>
                obtain ⟨h3, _⟩ := ba (show (decide (t = "tuple") && _) = true from c)
                exact ⟨a, _, PySem.W.mg_of X G e, q, congrArg Value.type (of_decide_eq_true h3), rfl, h2⟩
              | _ => cases c
            | some a => cases dt <;> cases c
          | _ => cases od <;> cases dt <;> cases c
      | _ => simp [datB] at c

/-! ### the Hook -/
abbrev AlV : Type := Bool × List FnW
def obsV (fa : List Fa) (fn : List DefD) (dc : List (Str × D)) (K : PySem.W.Frag) : AlV := ((fa.all fun f => f.ok K) && ((fn.all fun d => d.ok K) && dc.all fun p => conB K p), fn.map fun d => fnW K d.at_)
def valV' (fn : List DefD) : AlV := (true, fn.map DefD.val)
def SaysV (fa : List Fa) (fn : List DefD) (dc : List (Str × D)) (K : PySem.W.Frag) : Prop := obsV fa fn dc K = valV' fn
def obsVG (n : Nat) (fa : List Fa) (fn : List DefD) (dc : List (Str × D)) (g : Addr → Option Obj) : AlV := obsV fa fn dc (frG g (asD g n))
def hookV (n : Nat) (fa : List Fa) (fn : List DefD) (dc : List (Str × D)) : PySem.W.Hook where
  α := AlV
  obs := fun s => obsVG n fa fn dc s.heap.get?
  val := fun _ => valV' fn
  says := fun _ h => ∃ K : PySem.W.Frag, K.In h ∧ SaysV fa fn dc K
  of := fun _ _ e => ⟨_, frG_in, e⟩
  keeps := fun _ _ _ ⟨K, hK, c⟩ k => ⟨K, PySem.W.Frag.In.keeps hK k, c⟩
theorem obsVG_eq {n : Nat} {fa : List Fa} {fn : List DefD} {dc : List (Str × D)} {g : Addr → Option Obj} {s : Shared} (h : ∀ a, g a = s.heap.get? a) : obsVG n fa fn dc g = (hookV n fa fn dc).obs s := by
  have e : g = s.heap.get? := funext h
  rw [e] <;> rfl
section
variable {fa : List Fa} {fn : List DefD} {dc : List (Str × D)} {K : PySem.W.Frag}
theorem SaysV.fact (c : SaysV fa fn dc K) (i : Nat) {f : Fa} (h : fa[i]? = some f := by rfl) : f.ok K = true := by
  have c1 := (ba (show ((fa.all fun f => f.ok K) && ((fn.all fun d => d.ok K) && dc.all fun p => conB K p)) = true from congrArg (fun z : AlV => z.1) c)).1
  exact List.all_eq_true.mp c1 f (List.mem_of_getElem? h)
theorem SaysV.con (c : SaysV fa fn dc K) (i : Nat) {p : Str × D} (h : dc[i]? = some p := by rfl) : conB K p = true := by
  have c1 := (ba (ba (show ((fa.all fun f => f.ok K) && ((fn.all fun d => d.ok K) && dc.all fun p => conB K p)) = true from congrArg (fun z : AlV => z.1) c)).2).2
  exact List.all_eq_true.mp c1 p (List.mem_of_getElem? h)
theorem SaysV.def_ (c : SaysV fa fn dc K) (i : Nat) {d : DefD} (h : fn[i]? = some d := by rfl) : ∃ fd, FunD K d.name d.qual d.params d.body d.scope (d.dvs K) (d.kws K) (fAd K d.at_) fd := by
  have c2 := (ba (ba (show ((fa.all fun f => f.ok K) && ((fn.all fun d => d.ok K) && dc.all fun p => conB K p)) = true from congrArg (fun z : AlV => z.1) c)).2).1
  have e : fn.map (fun d => fnW K d.at_) = fn.map DefD.val := congrArg (fun z : AlV => z.2) c
  have e2 : (fn.map fun d => fnW K d.at_)[i]? = (fn.map DefD.val)[i]? := by rw [e]
  rw [List.getElem?_map, List.getElem?_map, h] at e2
  exact DefD.funD (Option.some.inj e2) (List.all_eq_true.mp c2 d (List.mem_of_getElem? h))
end
theorem hu66 {A : Around} {k : Nat} (hr : Room k A) : A.units + 66 < cLine := by have := hr.un; omega
end VL

set_option Elab.async false
set_option linter.all false
set_option autoImplicit false
set_option maxRecDepth 100000
set_option maxHeartbeats 1000000
/-! VLr0: enumerate over a zip of two tuples, at the library's level. -/
namespace VL
open PySem PySem.Spec PyProof.Rows L2
open PySem.Sem (wp)
/-- a zip, whatever it says of the tuple that it gave out last -/
abbrev ZAt (hp : Heap) (z TI TO : Addr) (v : Value) (fl : Bool) : Prop :=
  hp.get? z = some { cls := .type "zip", dict := none, data := .fields #[v, .bool fl, .bool false, .ref TI, .ref TO], slots := #[] }
section
variable {prog : Program} {w : World} {A : Around} {E : Value → Shared → Prop} {s : Shared} {z TI TO i1 i2 l1 l2 : Addr} {k1 k2 : Nat} {xs ys : Array Value} {x y a b v : Value} {fl : Bool}
def Frees (prog : Program) (w : World) (A : Around) (E : Value → Shared → Prop) (s : Shared) (z : Addr) : Prop := ∀ Q : Bool → Shared → Prop, Q true s → wpAny (model prog w) A (Builtin.SmallTypes.ownedTupleIsFree (.ref z)) Q E s
theorem frees_none (hz : ZAt s.heap z TI TO .none fl) : Frees prog w A E s z := fun Q h => by
  unfold Builtin.SmallTypes.ownedTupleIsFree
  exact wpAny_bind (wpAny_field hz rfl (x := .none) rfl (wpAny_pure h))
theorem dead_at {T : Addr} {Q : Option Obj → Shared → Prop} (ho : s.heap.get? T = none) (h : Q none s) : wpAny (model prog w) A (loadIfAlive T) Q E s := by
  have h' : Q (s.heap.get? T) s := by rw [ho]; exact h
  exact fun _ _ _ => h'
theorem live_at {T : Addr} {o : Obj} {Q : Option Obj → Shared → Prop} (ho : s.heap.get? T = some o) (h : Q (some o) s) : wpAny (model prog w) A (loadIfAlive T) Q E s := by
  have h' : Q (s.heap.get? T) s := by rw [ho]; exact h
  exact fun _ _ _ => h'
theorem frees_dead {T : Addr} (hz : ZAt s.heap z TI TO (rawInt T) fl) (hT : s.heap.get? T = none) : Frees prog w A E s z := fun Q h => by
  unfold Builtin.SmallTypes.ownedTupleIsFree
  refine wpAny_bind (wpAny_field hz rfl (x := rawInt T) rfl ?_)
  show wpAny _ _ (loadIfAlive ((T : Int).toNat) >>= _) _ _ _
  rw [Int.toNat_natCast]
  refine wpAny_bind (dead_at hT ?_)
  exact wpAny_pure h
theorem holds_live {T : Addr} {oT : Obj} {Q : Bool → Shared → Prop} (hz : ZAt s.heap z TI TO (rawInt T) fl) (hT : s.heap.get? T = some oT)
    (h : ∀ hp, ZAt hp z TI TO (rawInt T) true → Heap.SameBut z s.heap hp → Q false { s with heap := hp }) : wpAny (model prog w) A (Builtin.SmallTypes.ownedTupleIsFree (.ref z)) Q E s := by
  unfold Builtin.SmallTypes.ownedTupleIsFree
  refine wpAny_bind (wpAny_field hz rfl (x := rawInt T) rfl ?_)
  show wpAny _ _ (loadIfAlive ((T : Int).toNat) >>= _) _ _ _
  rw [Int.toNat_natCast]
  refine wpAny_bind (live_at hT ?_)
  simp only [Option.isNone_some, Bool.false_eq_true, if_false]
  refine wpAny_bind (wpAny_field hz rfl (x := .bool fl) rfl ?_)
  cases fl
  · rw [if_pos (show (Value.bool false != Value.bool true) = true from rfl)]
    exact wpAny_bind (wpAny_setField_rec hz (by simp) fun hp q1 q2 => wpAny_pure (h hp q1 q2))
  · rw [if_neg (show ¬ ((Value.bool true != Value.bool true) = true) from Bool.false_ne_true)]
    exact wpAny_pure (h s.heap hz (Heap.SameBut.refl _ _))

/-- what stands behind a turn of the zip -/
structure ZOut (hp hq : Heap) (z TI TO i1 i2 l1 l2 : Addr) (k1 k2 : Nat) (x y : Value) : Prop where
  atz : ∃ (T : Addr) (fl : Bool), ZAt hq z TI TO (rawInt T) fl
  atTO : ∃ c d, IsPair hq TO c d
  at1 : hq.IsTupleIter i1 l1 (k1 + 1)
  at2 : hq.IsTupleIter i2 l2 (k2 + 1)
  new : IsPair hq hp.objs.size x y
  size : hq.objs.size = hp.objs.size + 1
  rest : ∀ c o, c ≠ z → c ≠ TO → c ≠ i1 → c ≠ i2 → hp.get? c = some o → hq.get? c = some o
/-- the zip has ended: its own objects alone have turned -/
def ZEnd (hp hq : Heap) (z TO i1 i2 : Addr) : Prop := ∀ c o, c ≠ z → c ≠ TO → c ≠ i1 → c ≠ i2 → hp.get? c = some o → hq.get? c = some o

theorem z_free_item {Q : Value → Shared → Prop} (D : ZipApart z TI TO i1 i2 l1 l2) (hz : ZAt s.heap z TI TO v fl) (fr : Frees prog w A E s z) (hTI : IsPair s.heap TI (.ref i1) (.ref i2)) (hTO : IsPair s.heap TO a b)
    (g1 : s.heap.IsTupleIter i1 l1 k1) (g2 : s.heap.IsTupleIter i2 l2 k2) (m1 : s.heap.IsTuple l1 xs) (m2 : s.heap.IsTuple l2 ys) (hx : xs[k1]? = some x) (hy : ys[k2]? = some y)
    (hQ : ∀ hq, ZOut s.heap hq z TI TO i1 i2 l1 l2 k1 k2 x y → Q (.ref s.heap.objs.size) { s with heap := hq }) :
    wpAny (model prog w) A (Builtin.«zip.__next__» ⟨[.ref z], []⟩) (fun fin s' => ∃ u, fin = .done (.ret u) ∧ Q u s') E s := by
  show wpAny _ _ (field (.ref z) 2 >>= _) _ _ _
  refine wpAny_bind (wpAny_field hz rfl (x := .bool false) rfl ?_)
  show wpAny _ _ (field (.ref z) 3 >>= _) _ _ _
  refine wpAny_bind (wpAny_field hz rfl (x := .ref TI) rfl ?_)
  refine wpAny_bind (wpAny_seqItems hTI rfl ?_)
  show wpAny _ _ (Builtin.SmallTypes.ownedTupleIsFree (.ref z) >>= _) _ _ _
  refine wpAny_bind (fr _ ?_)
  simp only [if_true]
  refine wpAny_bind (wpAny_rule ?_)
  refine wpAny_bind (wpAny_field hz rfl (x := .ref TO) rfl ?_)
  refine wpAny_bind (wpAny_setField_rec hz (by simp) fun p1 q1 e1 => ?_)
  replace q1 : ZAt p1 z TI TO .ellipsis fl := q1
  refine wpAny_bind ?_
  simp only [List.zipIdx_cons, List.zipIdx_nil, List.forIn_cons, List.forIn_nil]
  refine wpAny_bind (wpAny_bind (wpAny_onRaise ?_))
  show wpAny _ _ (Builtin.SmallTypes.nextOf (.ref i1) >>= _) _ _ _
  refine wpAny_bind (RZ.nextOf_tuple_item (g1.extBut e1.extBut D.i1z) (m1.extBut e1.extBut D.l1z) hx fun p2 n1 e2 => wpAny_pure ?_)
  have t2 : IsPair p2 TO a b := e2.extBut _ _ D.TOi1 (e1.extBut _ _ D.TOz hTO)
  refine wpAny_bind (wpAny_seqItems t2 rfl ?_)
  refine wpAny_bind (wpAny_updateSeq_pair t2 fun p3 t3 e3 => ?_)
  replace t3 : IsPair p3 TO x b := t3
  refine wpAny_bind (wpAny_letGo (wpAny_pure ?_))
  refine wpAny_bind (wpAny_bind (wpAny_onRaise ?_))
  show wpAny _ _ (Builtin.SmallTypes.nextOf (.ref i2) >>= _) _ _ _
  have g2' := ((g2.extBut e1.extBut D.i2z).extBut e2.extBut D.i12.symm).extBut e3.extBut D.TOi2.symm
  have m2' := ((m2.extBut e1.extBut D.l2z).extBut e2.extBut D.l2i1).extBut e3.extBut D.l2TO
  refine wpAny_bind (RZ.nextOf_tuple_item g2' m2' hy fun p4 n2 e4 => wpAny_pure ?_)
  have t4 : IsPair p4 TO x b := e4.extBut _ _ D.TOi2 t3
  refine wpAny_bind (wpAny_seqItems t4 rfl ?_)
  refine wpAny_bind (wpAny_updateSeq_pair t4 fun p5 t5 e5 => ?_)
  replace t5 : IsPair p5 TO x y := t5
  refine wpAny_bind (wpAny_letGo (wpAny_pure (wpAny_pure ?_)))
  refine wpAny_bind (wpAny_seqItems t5 rfl ?_)
  refine wpAny_bind (wpAny_newTuple ?_)
  have size5 : p5.objs.size = s.heap.objs.size := by rw [e5.1, e4.1, e3.1, e2.1, e1.1]
  have z5 : ZAt p5 z TI TO .ellipsis fl := e5.extBut _ _ D.TOz.symm (e4.extBut _ _ D.i2z.symm (e3.extBut _ _ D.TOz.symm (e2.extBut _ _ D.i1z.symm q1)))
  have rest5 : ∀ c o, c ≠ z → c ≠ TO → c ≠ i1 → c ≠ i2 → s.heap.get? c = some o → p5.get? c = some o := fun c o c1 c2 c3 c4 e =>
    e5.extBut _ _ c2 (e4.extBut _ _ c4 (e3.extBut _ _ c2 (e2.extBut _ _ c3 (e1.extBut _ _ c1 e))))
  have n1' := ((n1.extBut e3.extBut D.TOi1.symm).extBut e4.extBut D.i12).extBut e5.extBut D.TOi1.symm
  have n2' := n2.extBut e5.extBut D.TOi2.symm
  have lz : z < p5.objs.size := Heap.lt_size z5
  show wpAny _ _ (Builtin.SmallTypes.ownedTupleHandOut (.ref z) (.ref p5.objs.size) >>= _) _ _ _
  refine wpAny_bind ?_
  unfold Builtin.SmallTypes.ownedTupleHandOut
  have z6 : ZAt (p5.push { cls := .type "tuple", data := .seq #[x, y] }) z TI TO .ellipsis fl := Heap.get?_push_of_some _ z5
  refine wpAny_bind (wpAny_setField_rec z6 (by simp) fun p7 z7 e7 => ?_)
  replace z7 : ZAt p7 z TI TO (rawInt p5.objs.size) fl := z7
  refine wpAny_setField_rec z7 (by simp) fun p8 z8 e8 => ?_
  replace z8 : ZAt p8 z TI TO (rawInt p5.objs.size) false := z8
  have up : ∀ c o, c ≠ z → p5.get? c = some o → p8.get? c = some o := fun c o c1 e => e8.extBut _ _ c1 (e7.extBut _ _ c1 (Heap.get?_push_of_some _ e))
  have t8 : IsPair p8 p5.objs.size x y := e8.extBut _ _ (Nat.ne_of_gt lz) (e7.extBut _ _ (Nat.ne_of_gt lz) (Heap.get?_push_size _ rfl))
  have size8 : p8.objs.size = p5.objs.size + 1 := by rw [e8.1, e7.1, Heap.size_push]
  refine wpAny_pure ⟨_, rfl, ?_⟩
  show Q (.ref p5.objs.size) _
  rw [size5]
  exact hQ p8 ⟨⟨_, _, z8⟩, ⟨_, _, up _ _ D.TOz t5⟩, n1'.at fun o e => up _ o D.i1z e, n2'.at fun o e => up _ o D.i2z e, by rw [← size5]; exact t8, by rw [size8, size5], fun c o c1 c2 c3 c4 e => up c o c1 (rest5 c o c1 c2 c3 c4 e)⟩

theorem z_held_item {T : Addr} {oT : Obj} {Q : Value → Shared → Prop} (D : ZipApart z TI TO i1 i2 l1 l2) (hz : ZAt s.heap z TI TO (rawInt T) fl) (hT : s.heap.get? T = some oT) (hTI : IsPair s.heap TI (.ref i1) (.ref i2)) (hTO : IsPair s.heap TO a b)
    (g1 : s.heap.IsTupleIter i1 l1 k1) (g2 : s.heap.IsTupleIter i2 l2 k2) (m1 : s.heap.IsTuple l1 xs) (m2 : s.heap.IsTuple l2 ys) (hx : xs[k1]? = some x) (hy : ys[k2]? = some y)
    (hQ : ∀ hq, ZOut s.heap hq z TI TO i1 i2 l1 l2 k1 k2 x y → Q (.ref s.heap.objs.size) { s with heap := hq }) :
    wpAny (model prog w) A (Builtin.«zip.__next__» ⟨[.ref z], []⟩) (fun fin s' => ∃ u, fin = .done (.ret u) ∧ Q u s') E s := by
  show wpAny _ _ (field (.ref z) 2 >>= _) _ _ _
  refine wpAny_bind (wpAny_field hz rfl (x := .bool false) rfl ?_)
  show wpAny _ _ (field (.ref z) 3 >>= _) _ _ _
  refine wpAny_bind (wpAny_field hz rfl (x := .ref TI) rfl ?_)
  refine wpAny_bind (wpAny_seqItems hTI rfl ?_)
  show wpAny _ _ (Builtin.SmallTypes.ownedTupleIsFree (.ref z) >>= _) _ _ _
  refine wpAny_bind (holds_live hz hT fun p1 q1 e1 => ?_)
  simp only [Bool.false_eq_true, if_false]
  refine wpAny_bind ?_
  rw [← Array.forIn_toList]
  simp only [List.forIn_cons, List.forIn_nil]
  refine wpAny_bind (wpAny_bind (wpAny_holding ?_))
  show wpAny _ _ (Builtin.SmallTypes.nextOf (.ref i1) >>= _) _ _ _
  refine wpAny_bind (RZ.nextOf_tuple_item (s := { s with heap := p1 }) (g1.extBut e1.extBut D.i1z) (m1.extBut e1.extBut D.l1z) hx fun p2 n1 e2 => wpAny_pure ?_)
  refine wpAny_pure ?_
  refine wpAny_bind (wpAny_bind (wpAny_holding ?_))
  show wpAny _ _ (Builtin.SmallTypes.nextOf (.ref i2) >>= _) _ _ _
  have g2' := (g2.extBut e1.extBut D.i2z).extBut e2.extBut D.i12.symm
  have m2' := (m2.extBut e1.extBut D.l2z).extBut e2.extBut D.l2i1
  refine wpAny_bind (RZ.nextOf_tuple_item (s := { s with heap := p2 }) g2' m2' hy fun p3 n2 e3 => wpAny_pure ?_)
  refine wpAny_pure (wpAny_pure ?_)
  show wpAny _ _ (newTuple [x, y] >>= _) _ _ _
  refine wpAny_bind (wpAny_newTuple ?_)
  have size3 : p3.objs.size = s.heap.objs.size := by rw [e3.1, e2.1, e1.1]
  have z3 : ZAt p3 z TI TO (rawInt T) true := e3.extBut _ _ D.i2z.symm (e2.extBut _ _ D.i1z.symm q1)
  have rest3 : ∀ c o, c ≠ z → c ≠ i1 → c ≠ i2 → s.heap.get? c = some o → p3.get? c = some o := fun c o c1 c2 c3 e => e3.extBut _ _ c3 (e2.extBut _ _ c2 (e1.extBut _ _ c1 e))
  have n1' := n1.extBut e3.extBut D.i12
  refine wpAny_pure ⟨_, rfl, ?_⟩
  show Q (.ref p3.objs.size) _
  rw [size3]
  have up : ∀ c o, p3.get? c = some o → (p3.push { cls := .type "tuple", data := .seq #[x, y] }).get? c = some o := fun c o e => Heap.get?_push_of_some _ e
  exact hQ _ ⟨⟨_, _, up _ _ z3⟩, ⟨_, _, up _ _ (rest3 _ _ D.TOz D.TOi1 D.TOi2 hTO)⟩, n1'.at fun o e => up _ o e, n2.at fun o e => up _ o e, by rw [← size3]; exact Heap.get?_push_size _ rfl, by rw [Heap.size_push, size3], fun c o c1 _ c3 c4 e => up _ _ (rest3 c o c1 c3 c4 e)⟩

theorem z_free_end {Q : Fin → Shared → Prop} (hh : A.handled = none) (D : ZipApart z TI TO i1 i2 l1 l2) (hz : ZAt s.heap z TI TO v fl) (fr : Frees prog w A E s z) (hTI : IsPair s.heap TI (.ref i1) (.ref i2)) (hTO : IsPair s.heap TO a b)
    (g1 : s.heap.IsTupleIter i1 l1 k1) (g2 : s.heap.IsTupleIter i2 l2 k2) (m1 : s.heap.IsTuple l1 xs) (m2 : s.heap.IsTuple l2 ys) (hend : xs[k1]? = none ∨ ys[k2]? = none)
    (hE : ∀ hq e, ZEnd s.heap hq z TO i1 i2 → (∃ o, hq.get? e = some o ∧ o.cls = .type "StopIteration") → E (.ref e) { s with heap := hq }) :
    wpAny (model prog w) A (Builtin.«zip.__next__» ⟨[.ref z], []⟩) Q E s := by
  show wpAny _ _ (field (.ref z) 2 >>= _) _ _ _
  refine wpAny_bind (wpAny_field hz rfl (x := .bool false) rfl ?_)
  show wpAny _ _ (field (.ref z) 3 >>= _) _ _ _
  refine wpAny_bind (wpAny_field hz rfl (x := .ref TI) rfl ?_)
  refine wpAny_bind (wpAny_seqItems hTI rfl ?_)
  show wpAny _ _ (Builtin.SmallTypes.ownedTupleIsFree (.ref z) >>= _) _ _ _
  refine wpAny_bind (fr _ ?_)
  simp only [if_true]
  refine wpAny_bind (wpAny_rule ?_)
  refine wpAny_bind (wpAny_field hz rfl (x := .ref TO) rfl ?_)
  refine wpAny_bind (wpAny_setField_rec hz (by simp) fun p1 q1 e1 => ?_)
  replace q1 : ZAt p1 z TI TO .ellipsis fl := q1
  refine wpAny_bind ?_
  simp only [List.zipIdx_cons, List.zipIdx_nil, List.forIn_cons, List.forIn_nil]
  refine wpAny_bind (wpAny_bind (wpAny_onRaise ?_))
  show wpAny _ _ (Builtin.SmallTypes.nextOf (.ref i1) >>= _) _ _ _
  cases hx : xs[k1]? with
  | none =>
    refine wpAny_bind (RZ.nextOf_tuple_end hh (g1.extBut e1.extBut D.i1z) (m1.extBut e1.extBut D.l1z) hx fun p2 ex e2 ee => ?_)
    obtain ⟨ox, hox, cx⟩ := ee
    have q2 : ZAt p2 z TI TO .ellipsis fl := e2 _ _ D.i1z.symm q1
    have ne : ex ≠ z := fun q => by subst q; rw [q2] at hox; cases hox; simp at cx
    refine wpAny_setField_rec q2 (by simp) fun p3 _ e3 => hE p3 ex (fun c o c1 _ c3 _ q => e3.extBut _ _ c1 (e2 _ _ c3 (e1.extBut _ _ c1 q))) ⟨ox, e3.extBut _ _ ne hox, cx⟩
  | some x =>
    have hy : ys[k2]? = none := by
      rcases hend with h | h
      · rw [hx] at h; cases h
      · exact h
    refine wpAny_bind (RZ.nextOf_tuple_item (g1.extBut e1.extBut D.i1z) (m1.extBut e1.extBut D.l1z) hx fun p2 n1 e2 => wpAny_pure ?_)
    have t2 : IsPair p2 TO a b := e2.extBut _ _ D.TOi1 (e1.extBut _ _ D.TOz hTO)
    refine wpAny_bind (wpAny_seqItems t2 rfl ?_)
    refine wpAny_bind (wpAny_updateSeq_pair t2 fun p3 t3 e3 => ?_)
    refine wpAny_bind (wpAny_letGo (wpAny_pure ?_))
    refine wpAny_bind (wpAny_bind (wpAny_onRaise ?_))
    show wpAny _ _ (Builtin.SmallTypes.nextOf (.ref i2) >>= _) _ _ _
    have g2' := ((g2.extBut e1.extBut D.i2z).extBut e2.extBut D.i12.symm).extBut e3.extBut D.TOi2.symm
    have m2' := ((m2.extBut e1.extBut D.l2z).extBut e2.extBut D.l2i1).extBut e3.extBut D.l2TO
    refine wpAny_bind (RZ.nextOf_tuple_end hh g2' m2' hy fun p4 ex e4 ee => ?_)
    obtain ⟨ox, hox, cx⟩ := ee
    have q4 : ZAt p4 z TI TO .ellipsis fl := e4 _ _ D.i2z.symm (e3.extBut _ _ D.TOz.symm (e2.extBut _ _ D.i1z.symm q1))
    have ne : ex ≠ z := fun q => by subst q; rw [q4] at hox; cases hox; simp at cx
    refine wpAny_setField_rec q4 (by simp) fun p5 _ e5 => hE p5 ex (fun c o c1 c2 c3 c4 q => e5.extBut _ _ c1 (e4 _ _ c4 (e3.extBut _ _ c2 (e2.extBut _ _ c3 (e1.extBut _ _ c1 q))))) ⟨ox, e5.extBut _ _ ne hox, cx⟩

theorem z_held_end {T : Addr} {oT : Obj} {Q : Fin → Shared → Prop} (hh : A.handled = none) (D : ZipApart z TI TO i1 i2 l1 l2) (hz : ZAt s.heap z TI TO (rawInt T) fl) (hT : s.heap.get? T = some oT) (hTI : IsPair s.heap TI (.ref i1) (.ref i2))
    (g1 : s.heap.IsTupleIter i1 l1 k1) (g2 : s.heap.IsTupleIter i2 l2 k2) (m1 : s.heap.IsTuple l1 xs) (m2 : s.heap.IsTuple l2 ys) (hend : xs[k1]? = none ∨ ys[k2]? = none)
    (hE : ∀ hq e, ZEnd s.heap hq z TO i1 i2 → (∃ o, hq.get? e = some o ∧ o.cls = .type "StopIteration") → E (.ref e) { s with heap := hq }) :
    wpAny (model prog w) A (Builtin.«zip.__next__» ⟨[.ref z], []⟩) Q E s := by
  show wpAny _ _ (field (.ref z) 2 >>= _) _ _ _
  refine wpAny_bind (wpAny_field hz rfl (x := .bool false) rfl ?_)
  show wpAny _ _ (field (.ref z) 3 >>= _) _ _ _
  refine wpAny_bind (wpAny_field hz rfl (x := .ref TI) rfl ?_)
  refine wpAny_bind (wpAny_seqItems hTI rfl ?_)
  show wpAny _ _ (Builtin.SmallTypes.ownedTupleIsFree (.ref z) >>= _) _ _ _
  refine wpAny_bind (holds_live hz hT fun p1 q1 e1 => ?_)
  simp only [Bool.false_eq_true, if_false]
  refine wpAny_bind ?_
  rw [← Array.forIn_toList]
  simp only [List.forIn_cons, List.forIn_nil]
  refine wpAny_bind (wpAny_bind (wpAny_holding ?_))
  show wpAny _ _ (Builtin.SmallTypes.nextOf (.ref i1) >>= _) _ _ _
  cases hx : xs[k1]? with
  | none =>
    refine wpAny_bind (RZ.nextOf_tuple_end (s := { s with heap := p1 }) hh (g1.extBut e1.extBut D.i1z) (m1.extBut e1.extBut D.l1z) hx fun p2 ex e2 ee => ?_)
    exact hE p2 ex (fun c o c1 _ c3 _ q => e2 _ _ c3 (e1.extBut _ _ c1 q)) ee
  | some x =>
    have hy : ys[k2]? = none := by
      rcases hend with h | h
      · rw [hx] at h; cases h
      · exact h
    refine wpAny_bind (RZ.nextOf_tuple_item (s := { s with heap := p1 }) (g1.extBut e1.extBut D.i1z) (m1.extBut e1.extBut D.l1z) hx fun p2 n1 e2 => wpAny_pure ?_)
    refine wpAny_pure ?_
    refine wpAny_bind (wpAny_bind (wpAny_holding ?_))
    show wpAny _ _ (Builtin.SmallTypes.nextOf (.ref i2) >>= _) _ _ _
    have g2' := (g2.extBut e1.extBut D.i2z).extBut e2.extBut D.i12.symm
    have m2' := (m2.extBut e1.extBut D.l2z).extBut e2.extBut D.l2i1
    refine wpAny_bind (RZ.nextOf_tuple_end (s := { s with heap := p2 }) hh g2' m2' hy fun p3 ex e3 ee => ?_)
    exact hE p3 ex (fun c o c1 _ c3 c4 q => e3 _ _ c4 (e2.extBut _ _ c3 (e1.extBut _ _ c1 q))) ee

/-- where the zip stands between two turns -/
structure ZIn (hp : Heap) (z TI TO i1 i2 l1 l2 : Addr) (k : Nat) : Prop where
  atz : ∃ (v : Value) (fl : Bool), ZAt hp z TI TO v fl ∧ (v = .none ∨ ∃ T : Addr, v = rawInt T)
  atTI : IsPair hp TI (.ref i1) (.ref i2)
  atTO : ∃ c d, IsPair hp TO c d
  at1 : hp.IsTupleIter i1 l1 k
  at2 : hp.IsTupleIter i2 l2 k
theorem z_item {k : Nat} {Q : Value → Shared → Prop} (D : ZipApart z TI TO i1 i2 l1 l2) (Z : ZIn s.heap z TI TO i1 i2 l1 l2 k) (m1 : s.heap.IsTuple l1 xs) (m2 : s.heap.IsTuple l2 ys) (hx : xs[k]? = some x) (hy : ys[k]? = some y)
    (hQ : ∀ hq, ZOut s.heap hq z TI TO i1 i2 l1 l2 k k x y → Q (.ref s.heap.objs.size) { s with heap := hq }) :
    wpAny (model prog w) A (Builtin.SmallTypes.nextOf (.ref z)) Q E s := by
  obtain ⟨⟨v, fl, hz, hv⟩, hTI, ⟨c, d, hTO⟩, g1, g2⟩ := Z
  have ty : s.TypeIs (.ref z) "zip" := ⟨_, hz, rfl⟩
  have body : wpAny (model prog w) A.in1 (Builtin.«zip.__next__» ⟨[.ref z], []⟩) (fun fin s' => ∃ u, fin = .done (.ret u) ∧ Q u s') E s := by
    rcases hv with rfl | ⟨T, rfl⟩
    · exact z_free_item D hz (frees_none hz) hTI hTO g1 g2 m1 m2 hx hy hQ
    · cases hT : s.heap.get? T with
      | none => exact z_free_item D hz (frees_dead hz hT) hTI hTO g1 g2 m1 m2 hx hy hQ
      | some oT => exact z_held_item D hz hT hTI hTO g1 g2 m1 m2 hx hy hQ
  unfold Builtin.SmallTypes.nextOf
  refine wpAny_bind (wpAny_callSpecial?_slot (name := Str.ofString "__next__") ty F.slot_zip_next (wpAny_call_entry F.slot_zip_next ty F.entry_zip_next ?_ (F.args_zip_next_1 _)))
  refine wpAny_mono body (fun fin s' h => ?_) fun _ _ h => h
  obtain ⟨u, rfl, q⟩ := h
  exact ⟨u, rfl, wpAny_pure q⟩
end
end VL

set_option Elab.async false
set_option linter.all false
set_option autoImplicit false
set_option maxRecDepth 100000
set_option maxHeartbeats 1000000
/-! VLr1: enumerate over a zip of two tuples, at the library's level, the second half. -/
namespace VL
open PySem PySem.Spec PyProof.Rows L2
open PySem.Sem (wp)
section
variable {prog : Program} {w : World} {A : Around} {E : Value → Shared → Prop} {s : Shared} {e z TI TO i1 i2 l1 l2 : Addr} {xs ys : Array Value} {x y old : Value}
theorem z_end {k : Nat} {Q : Value → Shared → Prop} (hh : A.handled = none) (D : ZipApart z TI TO i1 i2 l1 l2) (Z : ZIn s.heap z TI TO i1 i2 l1 l2 k) (m1 : s.heap.IsTuple l1 xs) (m2 : s.heap.IsTuple l2 ys) (hend : xs[k]? = none ∨ ys[k]? = none)
    (hE : ∀ hq ex, ZEnd s.heap hq z TO i1 i2 → (∃ o, hq.get? ex = some o ∧ o.cls = .type "StopIteration") → E (.ref ex) { s with heap := hq }) :
    wpAny (model prog w) A (Builtin.SmallTypes.nextOf (.ref z)) Q E s := by
  obtain ⟨⟨v, fl, hz, hv⟩, hTI, ⟨c, d, hTO⟩, g1, g2⟩ := Z
  have ty : s.TypeIs (.ref z) "zip" := ⟨_, hz, rfl⟩
  have hi : A.in1.handled = none := hh
  unfold Builtin.SmallTypes.nextOf
  refine wpAny_bind (wpAny_callSpecial?_slot (name := Str.ofString "__next__") ty F.slot_zip_next (wpAny_call_entry F.slot_zip_next ty F.entry_zip_next ?_ (F.args_zip_next_1 _)))
  rcases hv with rfl | ⟨T, rfl⟩
  · exact z_free_end hi D hz (frees_none hz) hTI hTO g1 g2 m1 m2 hend hE
  · cases hT : s.heap.get? T with
    | none => exact z_free_end hi D hz (frees_dead hz hT) hTI hTO g1 g2 m1 m2 hend hE
    | some oT => exact z_held_end hi D hz hT hTI g1 g2 m1 m2 hend hE

/-- what enumerate's turn leaves -/
structure EOut (hp hq : Heap) (e z : Addr) (i : Nat) (tk : Nat) (x : Value) : Prop where
  ate : IsEnumOut hq e z ((i : Int) + 1) x hp.objs.size
  new : hq.get? hp.objs.size = some { cls := .type "tuple", data := .seq #[.int i tk, x] }
  size : hq.objs.size = hp.objs.size + 1
  rest : ∀ b o, b ≠ e → hp.get? b = some o → hq.get? b = some o
theorem e_next {i : Nat} {Q : Value → Shared → Prop} (he : IsEnum s.heap e z i old)
    (hn : wpAny (model prog w) A (Builtin.SmallTypes.nextOf (.ref z)) (fun x s1 => IsEnum s1.heap e z i old ∧ ∀ hq, EOut s1.heap hq e z i s1.toks x → Q (.ref s1.heap.objs.size) { s1 with heap := hq, toks := s1.toks + 1 }) E s) :
    wpAny (model prog w) A (Builtin.«enumerate.__next__» ⟨[.ref e], []⟩) (fun fin s' => ∃ u, fin = .done (.ret u) ∧ Q u s') E s := by
  show wpAny _ _ (field (.ref e) 2 >>= _) _ _ _
  refine wpAny_bind (wpAny_field he rfl (x := .ref z) rfl ?_)
  refine wpAny_bind (wpAny_mono hn (fun x s1 h => ?_) fun _ _ h => h)
  obtain ⟨he1, hQ⟩ := h
  obtain ⟨hp, g, d, tk, os⟩ := s1
  replace he1 : IsEnum hp e z i old := he1
  show wpAny _ _ (field (.ref e) 3 >>= _) _ _ ⟨hp, g, d, tk, os⟩
  refine wpAny_bind (wpAny_field he1 rfl (x := rawInt i) rfl ?_)
  show wpAny _ _ (field (.ref e) 4 >>= _) _ _ ⟨hp, g, d, tk, os⟩
  refine wpAny_bind (wpAny_field he1 rfl (x := .none) rfl ?_)
  show wpAny _ _ (mkInt i >>= _) _ _ ⟨hp, g, d, tk, os⟩
  refine wpAny_bind (wpAny_mkInt ?_)
  show wpAny _ _ (setField (.ref e) 3 (rawInt ((i : Int) + 1)) >>= _) _ _ ⟨hp, g, d, tk + 1, os⟩
  refine wpAny_bind (wpAny_setField_rec he1 (by simp) fun p2 q2 e2 => ?_)
  replace e2 : Heap.SameBut e hp p2 := e2
  replace q2 : IsEnum p2 e z ((i : Int) + 1) old := q2
  show wpAny _ _ (setField (.ref e) 4 .none >>= _) _ _ ⟨p2, g, d, tk + 1, os⟩
  refine wpAny_bind (wpAny_setField_rec q2 (by simp) fun p3 q3 e3 => ?_)
  replace e3 : Heap.SameBut e p2 p3 := e3
  replace q3 : IsEnum p3 e z ((i : Int) + 1) old := q3
  show wpAny _ _ (newTuple [.int i tk, x] >>= _) _ _ ⟨p3, g, d, tk + 1, os⟩
  refine wpAny_bind (wpAny_newTuple ?_)
  have q4 : IsEnum (p3.push { cls := .type "tuple", data := .seq #[.int i tk, x] }) e z ((i : Int) + 1) old := Heap.get?_push_of_some _ q3
  generalize hh4 : p3.push { cls := .type "tuple", data := .seq #[.int i tk, x] } = p4 at q4
  have size3 : p3.objs.size = hp.objs.size := by rw [e3.1, e2.1]
  have le : e < hp.objs.size := Heap.lt_size he1
  have t4 : p4.get? hp.objs.size = some { cls := .type "tuple", data := .seq #[.int i tk, x] } := by rw [← hh4, ← size3]; exact Heap.get?_push_size _ rfl
  have size4 : p4.objs.size = hp.objs.size + 1 := by rw [← hh4, Heap.size_push, size3]
  have rest4 : ∀ b o, b ≠ e → hp.get? b = some o → p4.get? b = some o := fun b o hb q => by
    rw [← hh4]; exact Heap.get?_push_of_some _ (e3.extBut b o hb (e2.extBut b o hb q))
  show wpAny _ _ (Builtin.SmallTypes.ownedTupleIsFree (.ref e) >>= _) _ _ ⟨p4, g, d, tk + 1, os⟩
  rw [size3]
  clear hh4 q3 e3 q2 e2 size3 p3 p2
  refine wpAny_bind ?_
  unfold Builtin.SmallTypes.ownedTupleIsFree
  refine wpAny_bind (wpAny_field q4 rfl (x := .none) rfl (wpAny_pure ?_))
  simp only [if_true]
  refine wpAny_bind (wpAny_rule ?_)
  refine wpAny_bind (wpAny_field q4 rfl (x := old) rfl ?_)
  refine wpAny_bind (wpAny_setField_rec q4 (by simp) fun p5 q5 e5 => ?_)
  replace e5 : Heap.SameBut e p4 p5 := e5
  replace q5 : IsEnum p5 e z ((i : Int) + 1) x := q5
  show wpAny _ _ (Builtin.SmallTypes.ownedTupleHandOut (.ref e) (.ref hp.objs.size) >>= _) _ _ ⟨p5, g, d, tk + 1, os⟩
  refine wpAny_bind ?_
  unfold Builtin.SmallTypes.ownedTupleHandOut
  refine wpAny_bind (wpAny_setField_rec q5 (by simp) fun p6 q6 e6 => ?_)
  replace e6 : Heap.SameBut e p5 p6 := e6
  replace q6 : IsEnumOut p6 e z ((i : Int) + 1) x hp.objs.size := q6
  refine wpAny_setField_rec q6 (by simp) fun p7 q7 e7 => ?_
  replace e7 : Heap.SameBut e p6 p7 := e7
  replace q7 : IsEnumOut p7 e z ((i : Int) + 1) x hp.objs.size := q7
  have up : ∀ b o, b ≠ e → p4.get? b = some o → p7.get? b = some o := fun b o hb q => e7.extBut b o hb (e6.extBut b o hb (e5.extBut b o hb q))
  refine wpAny_bind (wpAny_letGo (wpAny_pure ⟨_, rfl, hQ p7 ⟨q7, up _ _ (Nat.ne_of_gt le) t4, ?_, fun b o hb q => up b o hb (rest4 b o hb q)⟩⟩))
  rw [e7.1, e6.1, e5.1, size4]
theorem e_pyNext {i : Nat} {Q : Option Value → Shared → Prop} (he : IsEnum s.heap e z i old)
    (hn : wpAny (model prog w) A.in1 (Builtin.SmallTypes.nextOf (.ref z)) (fun x s1 => IsEnum s1.heap e z i old ∧ ∀ hq, EOut s1.heap hq e z i s1.toks x → Q (some (.ref s1.heap.objs.size)) { s1 with heap := hq, toks := s1.toks + 1 }) (fun _ _ => False) s) :
    wpAny (model prog w) A (pyNext (.ref e)) Q E s := by
  have ty : s.TypeIs (.ref e) "enumerate" := ⟨_, he, rfl⟩
  unfold pyNext
  refine wpAny_bind (wpAny_attempt (wpAny_callSpecial?_slot (name := Str.ofString "__next__") ty F.slot_enumerate_next (wpAny_call_entry F.slot_enumerate_next ty F.entry_enumerate_next ?_ (F.args_enumerate_next_1 _))))
  refine wpAny_mono (e_next (Q := fun u s2 => Q (some u) s2) (E := fun _ _ => False) he hn) (fun fin s' h => ?_) fun _ _ h => h.elim
  obtain ⟨u, rfl, q⟩ := h
  exact ⟨u, rfl, wpAny_pure q⟩
theorem e_pyEnd {i : Int} {Q : Option Value → Shared → Prop} (he : IsEnum s.heap e z i old)
    (hn : ∀ (Q' : Value → Shared → Prop) (E' : Value → Shared → Prop), (∀ hq ex, ZEnd s.heap hq z TO i1 i2 → (∃ o, hq.get? ex = some o ∧ o.cls = .type "StopIteration") → E' (.ref ex) { s with heap := hq }) → wpAny (model prog w) A.in1 (Builtin.SmallTypes.nextOf (.ref z)) Q' E' s)
    (hQ : ∀ hq, ZEnd s.heap hq z TO i1 i2 → Q none { s with heap := hq }) : wpAny (model prog w) A (pyNext (.ref e)) Q E s := by
  have ty : s.TypeIs (.ref e) "enumerate" := ⟨_, he, rfl⟩
  unfold pyNext
  refine wpAny_bind (wpAny_attempt (wpAny_callSpecial?_slot (name := Str.ofString "__next__") ty F.slot_enumerate_next (wpAny_call_entry F.slot_enumerate_next ty F.entry_enumerate_next ?_ (F.args_enumerate_next_1 _))))
  show wpAny _ _ (field (.ref e) 2 >>= _) _ _ _
  refine wpAny_bind (wpAny_field he rfl (x := .ref z) rfl ?_)
  refine wpAny_bind (hn _ _ fun hq ex h1 h2 => ?_)
  obtain ⟨o, ho, hc⟩ := h2
  refine wpAny_bind (wpAny_isInstance (T := "StopIteration") (b := true) ⟨o, ho, hc⟩ isSubtype_stop ?_)
  exact wpAny_pure (hQ _ h1)

/-! enumerate(zip) is made -/
open AutoSeq1 (wpAny_loadPart')
theorem meets_enum_zip (z TI TO : Addr) :
    Meets (Builtin.«enumerate.__new__» ⟨[.type "enumerate", .ref z], []⟩) (fun _ R s => ZAt s.heap z TI TO .none false ∧
      R (.ok (.ret (.ref s.heap.objs.size))) { s with heap := s.heap.push { cls := .type "enumerate", data := .fields #[.none, .bool false, .ref z, rawInt 0, .none, .none] } }) :=
  .of_wp fun prog w A R s h => by
    obtain ⟨hp, g, d, tk, os⟩ := s; obtain ⟨hl, h⟩ := h
    have hsub := sub_enumerate
    have hZ : IsZip (Shared.heap ⟨hp, g, d, tk, os⟩) z TI TO .none := hl
    wp_walk using wpAny_loadPart' hl
    refine wpAny_stack_any fun st => wpAny_pure ?_
    split
    · rename_i c _ _ _ _ _
      cases (c == Value.type "enumerate")
      · wp_walk using wpAny_loadPart' hl, wpAny_pyIter_zip hZ
        exact ⟨_, rfl, h⟩
      · wp_walk using wpAny_loadPart' hl, wpAny_pyIter_zip hZ
        exact ⟨_, rfl, h⟩
    · wp_walk using wpAny_loadPart' hl, wpAny_pyIter_zip hZ
      exact ⟨_, rfl, h⟩
theorem call_enum_zip {Q : Value → Shared → Prop} (hl : ZAt s.heap z TI TO .none false)
    (h : ∀ hq, IsEnum hq s.heap.objs.size z 0 .none → hq.objs.size = s.heap.objs.size + 1 → (∀ b o, s.heap.get? b = some o → hq.get? b = some o) → Q (.ref s.heap.objs.size) { s with heap := hq }) :
    wpAny (model prog w) A (call (.type "enumerate") [.ref z]) Q E s := by
  refine callType_new F.called_enumerate (by decide) (F.typeCall_enumerate_1 _) (F.newCall_enumerate_1 _) (fun obj => F.args_object_init_2 obj _) F.entry_enumerate_new (meets_enum_zip z TI TO) ⟨hl, ?_⟩
  have hq : IsEnum (s.heap.push { cls := .type "enumerate", data := .fields #[.none, .bool false, .ref z, rawInt 0, .none, .none] }) s.heap.objs.size z 0 .none := Heap.get?_push_size _ rfl
  exact ⟨⟨_, hq, rfl⟩, h _ hq (Heap.size_push ..) fun b o q => Heap.get?_push_of_some _ q⟩
end
end VL

set_option Elab.async false
set_option linter.all false
set_option autoImplicit false
set_option maxRecDepth 100000
set_option maxHeartbeats 1000000
namespace VL
open PySem PySem.Spec PyProof.Rows L2
theorem lt64 {n : Nat} (h : n + 66 < cLine) : n + 64 < cLine := by omega
theorem lt1 {n : Nat} (h : n + 66 < cLine) : n + 1 < cLine := by omega
def itEZ : List D → Option (List D)
  | [.tuple l, .tuple k] => some (enumD 0 (zipD l k))
  | _ => none
/-- the tuples at a and b, their items in new pairs, these with their numbers in new pairs -/
def IteZ (K : PySem.W.Frag) (a b : Addr) : It :=
  ⟨fun i H => ∃ (xs ys : List V) (x y : V), SqT K H a xs ∧ SqT K H b ys ∧ xs[i]? = some x ∧ ys[i]? = some y,
    fun i H v H' => ∃ T U x y, v = .ref U ∧ H T = none ∧ upd H T (.tup [x, y]) U = none ∧ H' = upd (upd H T (.tup [x, y])) U (.tup [.int (i : Nat), .ref T]) ∧ (∀ xs, SqT K H a xs → xs[i]? = some x) ∧ ∀ ys, SqT K H b ys → ys[i]? = some y,
    fun i H => ∃ xs ys : List V, SqT K H a xs ∧ SqT K H b ys ∧ (xs.length ≤ i ∨ ys.length ≤ i)⟩
theorem turn_enumZ {P : Program} {w : World} {K : PySem.W.Frag} {elts : List Expr} {kk : Nat} {tpos : Pos} {a b e z TI TO i1 i2 : Addr} (D : ZipApart z TI TO i1 i2 a b) (ne : e ∉ [z, TI, TO, i1, i2]) :
    Turn P w K (.Tuple elts kk tpos) (IteZ K a b) [e, z, TI, TO, i1, i2] e (fun i h => (∃ old, IsEnum h e z ((i : Nat) : Int) old) ∧ ZIn h z TI TO i1 i2 a b i) where
  mem := by simp
  obj := fun i h st c hc => by
    obtain ⟨⟨old, he⟩, ⟨v, fl, hz, _⟩, hTI, ⟨x, y, hTO⟩, ⟨o1, e1, _, d1⟩, ⟨o2, e2, _, d2⟩⟩ := st
    have cs : c = e ∨ c = z ∨ c = TI ∨ c = TO ∨ c = i1 ∨ c = i2 := by simpa using hc
    rcases cs with q | q | q | q | q | q
    · rw [q]; exact ⟨_, he, fun v q => nomatch q⟩
    · rw [q]; exact ⟨_, hz, fun v q => nomatch q⟩
    · rw [q]; exact ⟨_, hTI, fun v q => nomatch q⟩
    · rw [q]; exact ⟨_, hTO, fun v q => nomatch q⟩
    · rw [q]; exact ⟨o1, e1, fun v q => by rw [d1] at q; cases q⟩
    · rw [q]; exact ⟨o2, e2, fun v q => by rw [d2] at q; cases q⟩
  keep := fun i h h' st k => by
    obtain ⟨⟨old, he⟩, ⟨v, fl, hz, hv⟩, hTI, ⟨x, y, hTO⟩, g1, g2⟩ := st
    exact ⟨⟨old, k e (by simp) _ he⟩, ⟨v, fl, k z (by simp) _ hz, hv⟩, k TI (by simp) _ hTI, ⟨x, y, k TO (by simp) _ hTO⟩, g1.at fun o q => k i1 (by simp) o q, g2.at fun o q => k i2 (by simp) o q⟩
  item := by
    intro X hP hw hK hc i pins s σ H E I hf st hg
    subst hP hw hK
    obtain ⟨⟨old, he⟩, Z⟩ := st
    obtain ⟨xs, ys, x, y, hqx, hqy, hx, hy⟩ := hg
    obtain ⟨its, rv, p, _⟩ := I.tuple hqx
    obtain ⟨its2, rv2, p2, _⟩ := I.tuple hqy
    obtain ⟨u, hu, ru⟩ := rv.get hx
    obtain ⟨u2, hu2, ru2⟩ := rv2.get hy
    have nz : e ≠ z := fun q => ne (by simp [q])
    have nTI : e ≠ TI := fun q => ne (by simp [q])
    have nTO : e ≠ TO := fun q => ne (by simp [q])
    have n1 : e ≠ i1 := fun q => ne (by simp [q])
    have n2 : e ≠ i2 := fun q => ne (by simp [q])
    have lts : ∀ c ∈ [e, z, TI, TO, i1, i2], c < s.heap.objs.size := fun c hcm => by
      obtain ⟨⟨v, fl, hz, _⟩, hTI, ⟨c1, c2, hTO⟩, ⟨_, e1, _⟩, ⟨_, e2, _⟩⟩ := Z
      have cs : c = e ∨ c = z ∨ c = TI ∨ c = TO ∨ c = i1 ∨ c = i2 := by simpa using hcm
      rcases cs with q | q | q | q | q | q
      · rw [q]; exact Heap.lt_size he
      · rw [q]; exact Heap.lt_size hz
      · rw [q]; exact Heap.lt_size hTI
      · rw [q]; exact Heap.lt_size hTO
      · rw [q]; exact Heap.lt_size e1
      · rw [q]; exact Heap.lt_size e2
    refine e_pyNext he (z_item D Z p p2 (x := u) (y := u2) (by simpa using hu) (by simpa using hu2) fun hq zo => ⟨?_, fun hr eo => ?_⟩)
    · exact zo.rest e _ nz nTO n1 n2 he
    · obtain ⟨⟨T0, fl0, az⟩, ⟨c1, c2, aTO⟩, a1, a2, anew, asize, arest⟩ := zo
      obtain ⟨ae, enew, esize, erest⟩ := eo
      have asize : hq.objs.size = s.heap.objs.size + 1 := asize
      have newT : ObjOk X.prog X.w (upd H s.heap.objs.size (.tup [x, y])) hq s.heap.objs.size (.tup [x, y]) :=
        ⟨by show 2 ≤ sizeLine; decide, [u, u2], .cons ru (.cons ru2 .nil), ⟨_, anew, rfl, _, rfl⟩⟩
      have I1 : Inv X pins σ (upd H s.heap.objs.size (.tup [x, y])) { s with heap := hq } :=
        I.turnedNew (t' := s.toks) (ch := [e, z, TI, TO, i1, i2]) (fun c o hb q => arest c o (fun q' => hb (by simp [q'])) (fun q' => hb (by simp [q'])) (fun q' => hb (by simp [q'])) (fun q' => hb (by simp [q'])) q) hf (Nat.le_refl _) newT
      have hf1 : ∀ c ∈ [e, z, TI, TO, i1, i2], FpOk X pins (upd H s.heap.objs.size (.tup [x, y])) c := fun c hcm => by
        obtain ⟨f0, f1, f2, f3, f4, f5⟩ := hf c hcm
        exact ⟨by rw [upd_ne (Nat.ne_of_lt (lts c hcm))]; exact f0, f1, f2, f3, f4, f5⟩
      refine ⟨_, rfl, wpAny_letOwnedTupleGo_enum (s := { s with heap := hr, toks := s.toks + 1 }) ae fun ht e' sb => ?_⟩
      have fresh1 : upd H s.heap.objs.size (.tup [x, y]) hq.objs.size = none := I1.hok.fresh (Nat.le_refl _)
      have up : ∀ c o, c ≠ e → hq.get? c = some o → ht.get? c = some o := fun c o hb q => (sb.2 c hb).trans (erest c o hb q)
      have le : e < hq.objs.size := by rw [asize]; exact Nat.lt_succ_of_lt (lts e (by simp))
      have hU : ht.get? hq.objs.size = some { cls := .type "tuple", data := .seq #[.int i s.toks, .ref s.heap.objs.size] } := (sb.2 _ (Nat.ne_of_gt le)).trans enew
      have newU : ObjOk X.prog X.w (upd (upd H s.heap.objs.size (.tup [x, y])) hq.objs.size (.tup [.int (i : Nat), .ref s.heap.objs.size])) ht hq.objs.size (.tup [.int (i : Nat), .ref s.heap.objs.size]) :=
        ⟨by show 2 ≤ sizeLine; decide, [.int i s.toks, .ref s.heap.objs.size], .cons ⟨_, rfl⟩ (.cons rfl .nil), ⟨_, hU, rfl, _, rfl⟩⟩
      have I2 : Inv X pins σ (upd (upd H s.heap.objs.size (.tup [x, y])) hq.objs.size (.tup [.int (i : Nat), .ref s.heap.objs.size])) { s with heap := ht, toks := s.toks + 1 } :=
        I1.turnedNew (t' := s.toks + 1) (ch := [e, z, TI, TO, i1, i2]) (fun c o hb q => up c o (fun q' => hb (by simp [q'])) q) hf1 (Nat.le_refl _) newU
      refine ⟨.ref hq.objs.size, _, I2, rfl, ⟨_, _, x, y, rfl, I.hok.fresh (Nat.le_refl _), fresh1, rfl, fun l hl => by rw [I.tuple_inj hl hqx]; exact hx, fun l hl => by rw [I.tuple_inj hl hqy]; exact hy⟩, ⟨⟨.ref s.heap.objs.size, ?_⟩, ?_⟩, fun c hcm => ?_⟩
      · have e1 : ((i + 1 : Nat) : Int) = (i : Int) + 1 := by omega
        rw [e1]; exact e'
      · exact ⟨⟨_, _, up _ _ (Ne.symm nz) az, .inr ⟨_, rfl⟩⟩, up _ _ (Ne.symm nTI) (arest _ _ D.TIz D.TITO D.TIi1 D.TIi2 Z.atTI), ⟨_, _, up _ _ (Ne.symm nTO) aTO⟩, a1.at fun o q => up _ _ (Ne.symm n1) q, a2.at fun o q => up _ _ (Ne.symm n2) q⟩
      · have lc := lts c hcm
        rw [upd_ne (show c ≠ hq.objs.size by rw [asize]; exact Nat.ne_of_lt (Nat.lt_succ_of_lt lc))]
        exact (hf1 c hcm).1
  done := by
    intro X hP hw hK hc i pins s σ H E I hf st hg
    subst hP hw hK
    obtain ⟨⟨old, he⟩, Z⟩ := st
    obtain ⟨xs, ys, hqx, hqy, hend⟩ := hg
    obtain ⟨its, rv, p, _⟩ := I.tuple hqx
    obtain ⟨its2, rv2, p2, _⟩ := I.tuple hqy
    have ln := rv.length
    have ln2 := rv2.length
    have hx : its.toArray[i]? = none ∨ its2.toArray[i]? = none := by
      rcases hend with q | q
      · exact .inl (by simp; omega)
      · exact .inr (by simp; omega)
    exact e_pyEnd (TO := TO) (i1 := i1) (i2 := i2) he (fun Q' E' hE => z_end (I.ok.hd hc) D Z p p2 hx hE) fun hq h1 => ⟨rfl, I.turnedL (t' := s.toks) (ch := [e, z, TI, TO, i1, i2]) (fun c o hb q =>
      h1 c o (fun q' => hb (by simp [q'])) (fun q' => hb (by simp [q'])) (fun q' => hb (by simp [q'])) (fun q' => hb (by simp [q'])) q) hf⟩
  self := fun A i s Q E st h => let ⟨⟨_, he⟩, _⟩ := st; wpAny_pyIter_enum he h
def iEnumZ (K : PySem.W.Frag) (ta : TA) : TI := fun σ H R => ta σ H fun vs H1 => ∃ a b xs ys, vs = [.ref a, .ref b] ∧ SqT K H1 a xs ∧ SqT K H1 b ys ∧ R (IteZ K a b) H1
theorem boot_enum : bootBuiltins "enumerate" = some (.type "enumerate") := boot_enumerate
section
variable {X : Cx} {c : Vx} {G : Hp} {ρ : Rho} {σ : L2.St} {H F F1 : Hp}
variable {a b e : Expr} {es rest : List Expr} {p p2 pos cpos tpos : Pos} {m n : M R} {elts : List Expr} {kk : Nat}
theorem pi_enumZ {ta : TA} (hg : Gl X "enumerate") (hm : X.mg "enumerate" = none) (hg2 : Gl X "zip") (hm2 : X.mg "zip" = none) (ha : PA X [a, b] ta)
    (hs : starEach [a, b] X.env = (false, eval a X.env) :: starEach [b] X.env := by rfl) (hpl : (backTo cpos (starEach [b] X.env)).any (·.1) = false := by rfl) :
    PI X (.Tuple elts kk tpos) (.Call (.Name "enumerate" p) [.Call (.Name "zip" p2) [a, b] [] cpos] [] pos) (iEnumZ X.K ta) := by
  refine ⟨fun pins s σ H R I h => ?_⟩
  refine Call_Name1 (ld_blt I hg hm boot_enumerate (_root_.PySem.callWith_type1 ?_))
  refine Call_ (ld_blt I hg2 hm2 PyProof.Rows.boot_zip (PyProof.Rows.callWith_type1 (thn (ha.run cpos pins s σ H _ I h) fun us s1 ⟨vs, H1, I1, r1, q1⟩ => ?_) hs hpl))
  obtain ⟨a, b, xs, ys, ex, hqx, hqy, q⟩ := q1
  subst ex
  cases r1 with
  | cons r rr =>
    cases rr with
    | cons r' rr =>
      cases rr
      cases r
      cases r'
      obtain ⟨its, rv, p1, _⟩ := I1.tuple hqx
      obtain ⟨its2, rv2, p2, _⟩ := I1.tuple hqy
      obtain ⟨o1, ho1, _⟩ := id p1
      obtain ⟨o2, ho2, _⟩ := id p2
      refine RZ.call_zipT (show s1.heap.IsTuple a its.toArray from p1) (show s1.heap.IsTuple b its2.toArray from p2) fun h' hz hTI hTO h1 h2 hsz hk => ?_
      have I2 : Inv X pins σ H1 { s1 with heap := h' } := I1.kept (t' := s1.toks) hk
      refine call_enum_zip (s := { s1 with heap := h' }) hz fun hq he hsz2 hk2 => wpAny_pyIter_enum he ?_
      have I3 : Inv X pins σ H1 { s1 with heap := hq } := I2.kept (t' := s1.toks) hk2
      have he : IsEnum hq h'.objs.size (s1.heap.objs.size + 4) 0 .none := he
      rw [hsz] at he
      have fresh6 : ∀ c, c ∈ [s1.heap.objs.size + 5, s1.heap.objs.size + 4, s1.heap.objs.size + 2, s1.heap.objs.size + 3, s1.heap.objs.size, s1.heap.objs.size + 1] → FpOk X pins H1 c := fun c hcm => by
        have cs : c = s1.heap.objs.size + 5 ∨ c = s1.heap.objs.size + 4 ∨ c = s1.heap.objs.size + 2 ∨ c = s1.heap.objs.size + 3 ∨ c = s1.heap.objs.size ∨ c = s1.heap.objs.size + 1 := by simpa using hcm
        have hle : s1.heap.objs.size ≤ c := by
          rcases cs with z | z | z | z | z | z <;> (rw [z]; omega)
        exact I1.fpOk hle (I1.hok.fresh hle)
      show PIE _ _ _ _ _ (.ref h'.objs.size) _
      rw [hsz]
      have up : ∀ b o, h'.get? b = some o → hq.get? b = some o := hk2
      exact ⟨s1.heap.objs.size + 5, [s1.heap.objs.size + 5, s1.heap.objs.size + 4, s1.heap.objs.size + 2, s1.heap.objs.size + 3, s1.heap.objs.size, s1.heap.objs.size + 1], _, _, H1, rfl, I3,
        turn_enumZ (PySem.W.ktu_apart s1.heap.objs.size a b (Heap.lt_size ho1) (Heap.lt_size ho2)) (by simp), ⟨⟨.none, he⟩, ⟨⟨.none, false, up _ _ hz, .inl rfl⟩, up _ _ hTI, ⟨_, _, up _ _ hTO⟩, h1.at fun o q => up _ _ q, h2.at fun o q => up _ _ q⟩⟩, fresh6, q⟩
theorem walk_enumZ {K : PySem.W.Frag} {F : Hp} {a b : Addr} {vs ws : List V} {ds es : List D} (h : SqT K F a vs) (r : RpAll K F vs ds) (h' : SqT K F b ws) (r' : RpAll K F ws es) : Walk K F (enumD 0 (zipD ds es)) (IteZ K a b) := fun i H F' le fh => by
  have hs : SqT K H a vs := SqT.le fh (SqT.le le h)
  have hs' : SqT K H b ws := SqT.le fh (SqT.le le h')
  refine ⟨fun d hd => ?_, fun hi => ⟨vs, ws, hs, hs', by rw [r.length, r'.length]; rw [enumD_length, zipD_length] at hi; omega⟩⟩
  obtain ⟨dz, hz, rfl⟩ := enumD_at hd
  obtain ⟨d1, d2, e1, e2, rfl⟩ := zipD_at hz
  obtain ⟨v, h1, h2⟩ := at_rp r le e1
  obtain ⟨w, h3, h4⟩ := at_rp r' le e2
  refine ⟨⟨vs, ws, v, w, hs, hs', h1, h3⟩, fun x H' ⟨T, U, x1, y1, ex, hT, hU, eH, y, y'⟩ => ?_⟩
  subst ex eH
  have q := y vs hs
  rw [h1] at q; cases q
  have q := y' ws hs'
  rw [h3] at q; cases q
  obtain ⟨F1, g1, rp1⟩ := pair_new (F := F') fh hT h2 h4
  obtain ⟨F2, g2, rp2⟩ := pair_new (F := F1) (H := upd H T (.tup [v, w])) (T := U) (x := .int (i : Nat)) (d := .int (i : Nat)) g1.fh hU (.int _) rp1
  rw [Nat.zero_add]
  refine ⟨F2, ⟨g1.hh.trans g2.hh, g1.ff.trans g2.ff, g2.fh, fun c o q => ?_⟩, rp2⟩
  rcases g2.new c o q with z | z
  · exact g1.new c o z
  · exact .inr (g1.hh.free z)
theorem vi_enumZ {ms : M (List R)} (hK : X.K = c.K) (hg : Gl X "enumerate") (hm : X.mg "enumerate" = none) (hg2 : Gl X "zip") (hm2 : X.mg "zip" = none) (ha : PA X [a, b] (tA c ms))
    (hs : starEach [a, b] X.env = (false, eval a X.env) :: starEach [b] X.env := by rfl) (hpl : (backTo cpos (starEach [b] X.env)).any (·.1) = false := by rfl) :
    PI X (.Tuple elts kk tpos) (.Call (.Name "enumerate" p) [.Call (.Name "zip" p2) [a, b] [] cpos] [] pos) (tI c (mItN itEZ ms)) :=
  pi_weak (pi_enumZ hg hm hg2 hm2 (va_frz ha) hs hpl) fun σ H R h => by
    obtain ⟨ρ, F, G, k, h⟩ := itN_of h
    refine ⟨ρ, F, G, k, h.imp fun xs H1 ⟨F, ds, l, fh, r, g, f⟩ => ?_⟩
    rw [hK]
    unfold itEZ at g
    split at g
    · cases g
      cases r with
      | cons r1 rr =>
        cases rr with
        | cons r2 rr =>
          cases rr
          cases r1 with
          | tup q1 s1 =>
            cases r2 with
            | tup q2 s2 => exact ⟨_, _, _, _, rfl, SqT.le fh q1, SqT.le fh q2, f _ (walk_enumZ q1 s1 q2 s2)⟩
    · cases g
end
end VL

set_option Elab.async false
set_option linter.all false
set_option autoImplicit false
set_option maxRecDepth 100000
namespace VL
open PySem PySem.Spec PyProof.Rows L2
theorem cx_no {P : Program} {w : World} {H : Hp} {s : Shared} {e : Value} {s' : Shared} (h : L2.CX P w [] H s (fun _ _ _ => False) e s') : False := by
  obtain ⟨_, _, _, _, _, _, _, _, _, _, _, _, z⟩ := h
  exact z
/-- the script as it is handed to the law -/
def scriptD (ns : List Int) : D := .dict [(.none, .list (ns.map .int))]
/-- the law's end: f answers True at every script -/
theorem walk_ofV {l : PySem.W.OpenLaw} {n k : Nat} {q : Program} {loose : List Str} {XP : (Str → Option Value) → Heap → Prop} {YP : World → Heap → Prop} {d : DefRec} {x : Str} {f : Fn}
    (hn : l.most = some n) (hn2 : n ≤ sizeLine) (hdf : d.params.defaults = []) (hr : Room k callerA)
    (hf : ∀ ns : List Int, ns.length ≤ n → (∀ z ∈ ns, Builtin.Int.intBits z ≤ 1048576) → ∃ ρ', f [.val (scriptD ns)] = .rt (.bool true) ρ')
    (F : ∀ (w : World) (mg : Str → Option Value) (fa : Addr) (h : Heap), YP w h → h.Ns mainGlobals mg → mg d.name = some (.ref fa) →
      ∃ (K : PySem.W.Frag) (fd : FuncData) (cls : String → Value), K.In h ∧ (∀ (s : Shared) (u : Value), BindsTo s fd ⟨[u], []⟩ [(x, u)]) ∧
        ∀ base : Heap, K.In base → base.Ns mainGlobals mg → FnOk l.prog w K mg base (L2.CX l.prog w) k fa fd [x] (spM K cls f 1)) :
    PySem.W.WalkO q loose XP YP l.row.toRowW d [] (fun f vs => PySem.call f vs) := by
  refine Att.attach_callB hn hdf fun w s₀ s₁ mg mb fa o pm cd doc a vs ns G Y ho hd hcd hmg hobj hints hlen hbits hg => ?_
  obtain ⟨K, fd, cls, KX, hb, hF⟩ := F w mg fa _ Y G.T.g hmg
  refine law_call KX G.T.g G.T.b G.T.builtins G.T.nolimit hg hobj hints (Nat.le_trans hlen hn2) hr hF hb (fun H hO hS => ?_) fun H e s' => cx_no
  obtain ⟨ρ', e⟩ := hf ns hlen hbits
  have hl : 1 = 1 := rfl
  refine ⟨[.val (scriptD ns)], H, rfl, HLe.refl H, ⟨rfl, fun kk s hs => ?_, fun k1 j1 a l l' h1 => ?_⟩, ?_⟩
  · cases kk with
    | zero =>
      cases hs
      exact ⟨.ref a, rfl, .frl hS (RpAll.ints ns)⟩
    | succ kk => simp at hs
  · cases k1 with
    | zero => cases h1
    | succ k1 => simp at h1
  · rw [e]
    intro v H' F' _ r
    cases (show Rp K F' v (.bool true) from r)
    rfl
end VL

set_option Elab.async false
set_option linter.all false
set_option autoImplicit false
set_option maxRecDepth 100000
namespace VL
open PySem PySem.Spec PyProof.Rows L2

/-! ### mirrors reckoned -/
def ans : SRes → Option D
  | .rt d _ => some d
  | _ => none
theorem ans_rt {r : SRes} {d : D} (h : ans r = some d) : ∃ ρ, r = .rt d ρ := by
  cases r <;> simp [ans] at h
  subst h
  exact ⟨_, rfl⟩
section
variable {α β : Type} {ρ : Rho} {m n o : M R} {f : α → M β}
@[simp] theorem mPure_run {a : α} : mPure a ρ = .ok a ρ := rfl
@[simp] theorem mBind_run {m : M α} : mBind m f ρ = (match m ρ with | .ok a ρ' => f a ρ' | .exc x ρ' => .exc x ρ' | .bad => .bad) := rfl
@[simp] theorem mConst_run {d : D} : mConst d ρ = .ok (.v d) ρ := rfl
@[simp] theorem mVar_run {i : Nat} : mVar i ρ = (match ρ[i]? with | some (.val d) => .ok (.v d) ρ | some (.lst _) => .ok (.b i) ρ | some (.iol _) => .ok (.b i) ρ | _ => .bad) := rfl
@[simp] theorem look_v {d : D} : look ρ (.v d) = some d := rfl
@[simp] theorem look_b {i : Nat} : look ρ (.b i) = (match ρ[i]? with | some (.val d) => some d | some (.lst l) => some l.data | some (.iol l) => some l.data | _ => none) := rfl
@[simp] theorem looks_nil : looks ρ [] = some [] := rfl
@[simp] theorem looks_cons {r : R} {rs : List R} : looks ρ (r :: rs) = (match look ρ r, looks ρ rs with | some d, some ds => some (d :: ds) | _, _ => none) := rfl
@[simp] theorem fin1_some {d : D} : fin1 ρ (some d) = .ok (.v d) ρ := rfl
@[simp] theorem fin1_none : fin1 ρ none = .bad := rfl
@[simp] theorem mOp1_run {g : D → Option D} : mOp1 g m ρ = (match m ρ with | .ok r ρ' => (match look ρ' r with | some d => fin1 ρ' (g d) | none => .bad) | .exc x ρ' => .exc x ρ' | .bad => .bad) := by
  show mBind _ _ ρ = _
  rw [mBind_run]
  cases m ρ <;> rfl
@[simp] theorem mOp2_run {g : D → D → Option D} : mOp2 g m n ρ = (match m ρ with | .ok r ρ1 => (match n ρ1 with | .ok u ρ2 => (match look ρ2 r, look ρ2 u with | some d, some e => fin1 ρ2 (g d e) | _, _ => .bad) | .exc x ρ' => .exc x ρ' | .bad => .bad) | .exc x ρ' => .exc x ρ' | .bad => .bad) := by
  show mBind _ _ ρ = _
  rw [mBind_run]
  cases m ρ with
  | bad => rfl
  | exc _ _ => rfl
  | ok r ρ1 =>
    dsimp only
    show mBind _ _ ρ1 = _
    rw [mBind_run]
    cases n ρ1 <;> rfl
@[simp] theorem mOpN_run {g : List D → Option D} {ms : M (List R)} : mOpN g ms ρ = (match ms ρ with | .ok rs ρ' => (match looks ρ' rs with | some ds => fin1 ρ' (g ds) | none => .bad) | .exc x ρ' => .exc x ρ' | .bad => .bad) := by
  show mBind _ _ ρ = _
  rw [mBind_run]
  cases ms ρ <;> rfl
@[simp] theorem mOpL_run {g : List D → Option (List D)} {ms : M (List R)} : mOpL g ms ρ = (match ms ρ with | .ok rs ρ' => (match looks ρ' rs with | some ds => (match g ds with | some l => .ok l ρ' | none => .bad) | none => .bad) | .exc x ρ' => .exc x ρ' | .bad => .bad) := by
  show mBind _ _ ρ = _
  rw [mBind_run]
  cases ms ρ <;> rfl
@[simp] theorem mNil_run : mNil ρ = .ok [] ρ := rfl
@[simp] theorem mCons_run {ms : M (List R)} : mCons m ms ρ = (match m ρ with | .ok r ρ1 => (match ms ρ1 with | .ok rs ρ2 => .ok (r :: rs) ρ2 | .exc x ρ' => .exc x ρ' | .bad => .bad) | .exc x ρ' => .exc x ρ' | .bad => .bad) := by
  show mBind _ _ ρ = _
  rw [mBind_run]
  cases m ρ with
  | bad => rfl
  | exc _ _ => rfl
  | ok r ρ1 =>
    dsimp only
    show mBind _ _ ρ1 = _
    rw [mBind_run]
    cases ms ρ1 <;> rfl
@[simp] theorem frz_v {d : D} : frz ρ (.v d) = .ok d ρ := rfl
@[simp] theorem frz_b {i : Nat} : frz ρ (.b i) = (match ρ[i]? with | some (.val d) => .ok d ρ | some (.lst l) => .ok l.data (ρ.set i (.val l.data)) | _ => .bad) := rfl
@[simp] theorem mFrz_run : mFrz m ρ = (match m ρ with | .ok r ρ' => frz ρ' r | .exc x ρ' => .exc x ρ' | .bad => .bad) := by
  show mBind _ _ ρ = _
  rw [mBind_run]
  cases m ρ <;> rfl
@[simp] theorem mFrzs_run {ms : M (List R)} : mFrzs ms ρ = (match ms ρ with | .ok rs ρ' => mFrzs.go rs ρ' | .exc x ρ' => .exc x ρ' | .bad => .bad) := by
  show mBind _ _ ρ = _
  rw [mBind_run]
  cases ms ρ <;> rfl
@[simp] theorem go_nil : mFrzs.go [] ρ = .ok [] ρ := rfl
@[simp] theorem go_cons {r : R} {rs : List R} : mFrzs.go (r :: rs) ρ = (match frz ρ r with | .ok d ρ1 => (match mFrzs.go rs ρ1 with | .ok ds ρ2 => .ok (d :: ds) ρ2 | .exc x ρ2 => .exc x ρ2 | .bad => .bad) | .exc x ρ1 => .exc x ρ1 | .bad => .bad) := rfl
@[simp] theorem mTru_run : mTru m ρ = (match m ρ with | .ok r ρ' => (match look ρ' r with | some d => (match truthE d with | some b => .ok b ρ' | none => .bad) | none => .bad) | .exc x ρ' => .exc x ρ' | .bad => .bad) := by
  show mBind _ _ ρ = _
  rw [mBind_run]
  cases m ρ <;> rfl
@[simp] theorem mTruV_run : mTruV m ρ = (match m ρ with | .ok r ρ' => (match look ρ' r with | some d => (match truthD d with | some b => .ok b ρ' | none => .bad) | none => .bad) | .exc x ρ' => .exc x ρ' | .bad => .bad) := by
  show mBind _ _ ρ = _
  rw [mBind_run]
  cases m ρ <;> rfl
@[simp] theorem mB_run : mB m ρ = (match m ρ with | .ok r ρ' => (match r with | .v (.bool b) => .ok b ρ' | _ => .bad) | .exc x ρ' => .exc x ρ' | .bad => .bad) := by
  show mBind _ _ ρ = _
  rw [mBind_run]
  cases m ρ <;> rfl
@[simp] theorem mNotT_run {m : M Bool} : mNotT m ρ = (match m ρ with | .ok b ρ' => .ok (!b) ρ' | .exc x ρ' => .exc x ρ' | .bad => .bad) := by
  show mBind _ _ ρ = _
  rw [mBind_run]
  cases m ρ <;> rfl
@[simp] theorem mAndT_run {m n : M Bool} : mAndT m n ρ = (match m ρ with | .ok b ρ' => (if b = true then n ρ' else .ok false ρ') | .exc x ρ' => .exc x ρ' | .bad => .bad) := by
  unfold mAndT; rw [mBind_run]; cases m ρ <;> simp <;> split <;> rfl
@[simp] theorem mOrT_run {m n : M Bool} : mOrT m n ρ = (match m ρ with | .ok b ρ' => (if b = true then .ok true ρ' else n ρ') | .exc x ρ' => .exc x ρ' | .bad => .bad) := by
  unfold mOrT; rw [mBind_run]; cases m ρ <;> simp <;> split <;> rfl
@[simp] theorem mNot_run : mNot m ρ = (match mTruV m ρ with | .ok b ρ' => .ok (.v (.bool (!b))) ρ' | .exc x ρ' => .exc x ρ' | .bad => .bad) := by
  show mBind _ _ ρ = _
  rw [mBind_run]
  cases mTruV m ρ <;> rfl
@[simp] theorem mAnd_run : mAnd m n ρ = (match m ρ with | .ok r ρ' => (match look ρ' r with | some d => (match truthD d with | some true => n ρ' | some false => .ok r ρ' | none => .bad) | none => .bad) | .exc x ρ' => .exc x ρ' | .bad => .bad) := by
  show mBind _ _ ρ = _
  rw [mBind_run]
  cases m ρ <;> rfl
@[simp] theorem mOr_run : mOr m n ρ = (match m ρ with | .ok r ρ' => (match look ρ' r with | some d => (match truthD d with | some true => .ok r ρ' | some false => n ρ' | none => .bad) | none => .bad) | .exc x ρ' => .exc x ρ' | .bad => .bad) := by
  show mBind _ _ ρ = _
  rw [mBind_run]
  cases m ρ <;> rfl
@[simp] theorem mIf_run {t : M Bool} {m n : M α} : mIf t m n ρ = (match t ρ with | .ok b ρ' => (if b = true then m ρ' else n ρ') | .exc x ρ' => .exc x ρ' | .bad => .bad) := by
  unfold mIf; rw [mBind_run]; cases t ρ <;> simp <;> split <;> rfl
@[simp] theorem mTup_run {ms : M (List R)} : mTup ms ρ = (match mFrzs ms ρ with | .ok ds ρ' => (if lenOk ds = true then .ok (.v (.tuple ds)) ρ' else .bad) | .exc x ρ' => .exc x ρ' | .bad => .bad) := by
  show mBind _ _ ρ = _
  rw [mBind_run]
  cases mFrzs ms ρ <;> rfl
@[simp] theorem mLst_run {ms : M (List R)} : mLst ms ρ = (match mFrzs ms ρ with | .ok ds ρ' => (if lenOk ds = true then .ok ds ρ' else .bad) | .exc x ρ' => .exc x ρ' | .bad => .bad) := by
  show mBind _ _ ρ = _
  rw [mBind_run]
  cases mFrzs ms ρ <;> rfl
@[simp] theorem mNew_run {ms : M (List D)} : mNew ms ρ = (match ms ρ with | .ok ds ρ' => .ok (.v (.list ds)) ρ' | .exc x ρ' => .exc x ρ' | .bad => .bad) := by
  show mBind _ _ ρ = _
  rw [mBind_run]
  cases ms ρ <;> rfl
@[simp] theorem mNewB_run {ms : M Box} : mNewB ms ρ = (match ms ρ with | .ok b ρ' => .ok (.v b.data) ρ' | .exc x ρ' => .exc x ρ' | .bad => .bad) := by
  show mBind _ _ ρ = _
  rw [mBind_run]
  cases ms ρ <;> rfl
@[simp] theorem mIt_run {g : D → Option (List D)} : mIt g m ρ = (match mFrz m ρ with | .ok d ρ' => (match g d with | some l => .ok l ρ' | none => .bad) | .exc x ρ' => .exc x ρ' | .bad => .bad) := by
  show mBind _ _ ρ = _
  rw [mBind_run]
  cases mFrz m ρ <;> rfl
@[simp] theorem mItN_run {g : List D → Option (List D)} {ms : M (List R)} : mItN g ms ρ = (match mFrzs ms ρ with | .ok ds ρ' => (match g ds with | some l => .ok l ρ' | none => .bad) | .exc x ρ' => .exc x ρ' | .bad => .bad) := by
  show mBind _ _ ρ = _
  rw [mBind_run]
  cases mFrzs ms ρ <;> rfl
@[simp] theorem mCall_run {f : Fn} {k : Nat} {ms : M (List R)} : mCall f k ms ρ = (match ms ρ with | .ok rs ρ' => callD f k rs ρ' | .exc x ρ' => .exc x ρ' | .bad => .bad) := by
  show mBind _ _ ρ = _
  rw [mBind_run]
  cases ms ρ <;> rfl
@[simp] theorem mYes_run : mYes ρ = .ok true ρ := rfl
@[simp] theorem moN_run : moN ρ = .ok none ρ := rfl
@[simp] theorem moS_run : moS m ρ = (match m ρ with | .ok r ρ' => (match look ρ' r with | some (.int i) => .ok (some i) ρ' | _ => .bad) | .exc x ρ' => .exc x ρ' | .bad => .bad) := by
  show mBind _ _ ρ = _
  rw [mBind_run]
  cases m ρ <;> rfl
@[simp] theorem mSl_run {g : D → Option Int → Option Int → Option D} {lo hi : M (Option Int)} : mSl g m lo hi ρ = (match m ρ with | .ok r ρ1 => (match lo ρ1 with | .ok l ρ2 => (match hi ρ2 with | .ok u ρ3 => (match look ρ3 r with | some d => fin1 ρ3 (g d l u) | none => .bad) | .exc x ρ' => .exc x ρ' | .bad => .bad) | .exc x ρ' => .exc x ρ' | .bad => .bad) | .exc x ρ' => .exc x ρ' | .bad => .bad) := by
  show mBind _ _ ρ = _
  rw [mBind_run]
  cases m ρ with
  | bad => rfl
  | exc _ _ => rfl
  | ok r ρ1 =>
    dsimp only
    show mBind _ _ ρ1 = _
    rw [mBind_run]
    cases lo ρ1 with
    | bad => rfl
    | exc _ _ => rfl
    | ok r ρ2 =>
      dsimp only
      show mBind _ _ ρ2 = _
      rw [mBind_run]
      cases hi ρ2 <;> rfl
@[simp] theorem mChain_run {g g' : D → D → Option D} : mChain g g' m n o ρ = (match m ρ with | .ok r ρ1 => (match n ρ1 with | .ok u ρ2 => (match look ρ2 r, look ρ2 u with | some d, some e => (match g d e with | some (.bool true) => mBind o (fun w ρ => match look ρ u, look ρ w with | some e', some f => fin1 ρ (g' e' f) | _, _ => .bad) ρ2 | some (.bool false) => .ok (.v (.bool false)) ρ2 | _ => .bad) | _, _ => .bad) | .exc x ρ' => .exc x ρ' | .bad => .bad) | .exc x ρ' => .exc x ρ' | .bad => .bad):= by
  show mBind _ _ ρ = _
  rw [mBind_run]
  cases m ρ with
  | bad => rfl
  | exc _ _ => rfl
  | ok r ρ1 =>
    dsimp only
    show mBind _ _ ρ1 = _
    rw [mBind_run]
    cases n ρ1 <;> rfl
@[simp] theorem mLc_run {own : List Nat} {mi : M (List D)} {t : Tgt} {mt : M Bool} : mLc own mi t mt m ρ = (match mi ρ with | .ok l ρ' => (if lenOk l = true then lcLoop own t mt (mFrz m) l ρ' else .bad) | .exc x ρ' => .exc x ρ' | .bad => .bad) := by
  show mBind _ _ ρ = _
  rw [mBind_run]
  cases mi ρ <;> rfl
@[simp] theorem mInR_run {b : Bool} {ms : M (List R)} : mInR b m ms ρ = (match m ρ with | .ok r ρ1 => (match ms ρ1 with | .ok rs ρ2 => (match look ρ2 r, looks ρ2 rs with | some (.int i), some ds => (match rangeOf ds with | some (lo, hi) => .ok (.v (.bool (if b = true then !decide (lo ≤ i ∧ i < hi) else decide (lo ≤ i ∧ i < hi)))) ρ2 | none => .bad) | _, _ => .bad) | .exc x ρ' => .exc x ρ' | .bad => .bad) | .exc x ρ' => .exc x ρ' | .bad => .bad):= by
  show mBind _ _ ρ = _
  rw [mBind_run]
  cases m ρ with
  | bad => rfl
  | exc _ _ => rfl
  | ok r ρ1 =>
    dsimp only
    show mBind _ _ ρ1 = _
    rw [mBind_run]
    cases ms ρ1 <;> rfl
/-! statements -/
@[simp] theorem sBind_run {m : M α} {f : α → MS} : sBind m f ρ = (match m ρ with | .ok a ρ' => f a ρ' | .exc x ρ' => .exc x ρ' | .bad => .bad) := rfl
@[simp] theorem sNext_run : sNext ρ = .nx ρ := rfl
@[simp] theorem sSeq_run {m n : MS} : sSeq m n ρ = (match m ρ with | .nx ρ' => n ρ' | r => r) := rfl
@[simp] theorem sExpr_run : sExpr m ρ = (match m ρ with | .ok a ρ' => .nx ρ' | .exc x ρ' => .exc x ρ' | .bad => .bad) := by
  show sBind _ _ ρ = _
  rw [sBind_run]
  cases m ρ <;> rfl
@[simp] theorem sRet_run : sRet m ρ = (match mFrz m ρ with | .ok d ρ' => .rt d ρ' | .exc x ρ' => .exc x ρ' | .bad => .bad) := by
  show sBind _ _ ρ = _
  rw [sBind_run]
  cases mFrz m ρ <;> rfl
@[simp] theorem sRetN_run : sRetN ρ = .rt .none ρ := rfl
@[simp] theorem sIf_run {t : M Bool} {m n : MS} : sIf t m n ρ = (match t ρ with | .ok b ρ' => (if b = true then m ρ' else n ρ') | .exc x ρ' => .exc x ρ' | .bad => .bad) := by
  unfold sIf; rw [sBind_run]; cases t ρ <;> simp <;> split <;> rfl
@[simp] theorem put_run {i : Nat} {s : SV} : put i s ρ = (match ρ[i]? with | some (.iol _) => none | some _ => some (ρ.set i s) | none => none) := rfl
@[simp] theorem gN_run {i : Nat} {d : D} : gN i d ρ = put i (.val d) ρ := rfl
@[simp] theorem gT_run {k : Nat} {t : Tgts} {l : List D} : gT k t (.tuple l) ρ = (if l.length = k then t l ρ else none) := rfl
@[simp] theorem gsN_run : gsN [] ρ = some ρ := rfl
@[simp] theorem gsC_run {t : Tgt} {u : Tgts} {d : D} {ds : List D} : gsC t u (d :: ds) ρ = (match t d ρ with | some ρ' => u ds ρ' | none => none) := rfl
@[simp] theorem nxo_some : nxo (some ρ) = .nx ρ := rfl
@[simp] theorem nxo_none : nxo none = .bad := rfl
@[simp] theorem sAsg_run {t : Tgt} : sAsg m t ρ = (match mFrz m ρ with | .ok d ρ' => nxo (t d ρ') | .exc x ρ' => .exc x ρ' | .bad => .bad) := by
  show sBind _ _ ρ = _
  rw [sBind_run]
  cases mFrz m ρ <;> rfl
@[simp] theorem sSetN_run {i : Nat} {m : M (List D)} : sSetN i m ρ = (match m ρ with | .ok l ρ' => nxo (put i (.lst (.li l)) ρ') | .exc x ρ' => .exc x ρ' | .bad => .bad) := by
  show sBind _ _ ρ = _
  rw [sBind_run]
  cases m ρ <;> rfl
@[simp] theorem sSetB_run {i : Nat} {m : M Box} : sSetB i m ρ = (match m ρ with | .ok l ρ' => nxo (put i (.lst l) ρ') | .exc x ρ' => .exc x ρ' | .bad => .bad) := by
  show sBind _ _ ρ = _
  rw [sBind_run]
  cases m ρ <;> rfl
@[simp] theorem sFor_run {mi : M (List D)} {t : Tgt} {b : MS} : sFor mi t b ρ = (match mi ρ with | .ok l ρ' => sLoop t b l ρ' | .exc x ρ' => .exc x ρ' | .bad => .bad) := by
  show sBind _ _ ρ = _
  rw [sBind_run]
  cases mi ρ <;> rfl
@[simp] theorem lenOk_len {l : List α} : lenOk l = decide (l.length ≤ 16777216) := rfl
end
end VL

set_option Elab.async false
set_option linter.all false
set_option autoImplicit false
set_option maxRecDepth 100000
namespace VL
open PySem PySem.Spec PyProof.Rows L2

/-! ### operations on data -/
theorem int_beq (i j : Int) : (i == j) = decide (i = j) := by
  by_cases h : i = j
  · subst h; simp
  · simp [h]
section
variable {i j : Int} {x y : Str} {l k : List D} {d e : D} {b : Bool}
@[simp] theorem gAdd_ii : gAdd (.int i) (.int j) = some (.int (i + j)) := rfl
@[simp] theorem gAddI_ii : gAddI (.int i) (.int j) = some (.int (i + j)) := rfl
@[simp] theorem gSub_ii : VL.gSub (.int i) (.int j) = some (.int (i - j)) := rfl
@[simp] theorem gMul_ii : gMul (.int i) (.int j) = (if mulOk i j = true then some (.int (i * j)) else none) := rfl
@[simp] theorem gAdd_tt : gAdd (.tuple l) (.tuple k) = (if decide (l.length + k.length ≤ 16777216) = true then some (.tuple (l ++ k)) else none) := rfl
@[simp] theorem gAdd_ll : gAdd (.list l) (.list k) = (if decide (l.length + k.length ≤ 16777216) = true then some (.list (l ++ k)) else none) := rfl
@[simp] theorem gMul_ti : gMul (.tuple l) (.int j) = (if repOk l j = true then some (.tuple (List.replicate j.toNat l).flatten) else none) := rfl
@[simp] theorem gMod_ii : gMod (.int i) (.int j) = (if decide (j ≠ 0) = true then some (.int (i.fmod j)) else none) := rfl
@[simp] theorem gFdiv_ii : gFdiv (.int i) (.int j) = (if (decide (j ≠ 0) && decide (j.natAbs < 1073741824)) = true then some (.int (i.fdiv j)) else none) := rfl
@[simp] theorem gPow_ii : gPow (.int i) (.int j) = (if (decide (0 ≤ j) && decide (j.natAbs ≤ 1000000) && decide (i.natAbs < 18446744073709551616)) = true then some (.int (i ^ j.toNat)) else none) := rfl
@[simp] theorem gNeg_i : gNeg (.int i) = some (.int (-i)) := rfl
@[simp] theorem gEq_ii : gEq (.int i) (.int j) = some (.bool (decide (i = j))) := by
  show some (PyData.bool (i == j)) = _
  rw [int_beq]
@[simp] theorem gNe_ii : gNe (.int i) (.int j) = some (.bool (!decide (i = j))) := by
  show some (PyData.bool (!(i == j))) = _
  rw [int_beq]
@[simp] theorem gLt_ii : gLt (.int i) (.int j) = some (.bool (decide (i < j))) := rfl
@[simp] theorem gLe_ii : gLe (.int i) (.int j) = some (.bool (decide (i ≤ j))) := rfl
@[simp] theorem gGt_ii : gGt (.int i) (.int j) = some (.bool (decide (j < i))) := rfl
@[simp] theorem gGe_ii : gGe (.int i) (.int j) = some (.bool (decide (j ≤ i))) := rfl
@[simp] theorem gIs_n : gIs d .none = some (.bool (isNo d)) := by cases d <;> rfl
@[simp] theorem gIsNot_n : gIsNot d .none = some (.bool (!isNo d)) := by cases d <;> rfl
@[simp] theorem isNo_int : isNo (.int i) = false := rfl
@[simp] theorem isNo_tup : isNo (.tuple l) = false := rfl
@[simp] theorem isNo_str : isNo (.str x) = false := rfl
@[simp] theorem isNo_none : isNo .none = true := rfl
@[simp] theorem isNo_bool : isNo (.bool b) = false := rfl
@[simp] theorem isNo_list : isNo (.list l) = false := rfl
@[simp] theorem truthD_b : truthD (.bool b) = some b := rfl
@[simp] theorem truthE_b : truthE (.bool b) = some b := rfl
@[simp] theorem truthE_i : truthE (.int i) = some (i != 0) := rfl
@[simp] theorem truthE_l : truthE (.list l) = some (!l.isEmpty) := rfl
@[simp] theorem truthE_t : truthE (.tuple l) = some (!l.isEmpty) := rfl
@[simp] theorem truthE_n : truthE .none = some false := rfl
@[simp] theorem gIxA_l : gIxA (.list l) (.int i) = atI l i := rfl
@[simp] theorem gIxA_t : gIxA (.tuple l) (.int i) = atI l i := rfl
@[simp] theorem gLen_l : gLen [.list l] = some (.int l.length) := rfl
@[simp] theorem gLen_t : gLen [.tuple l] = some (.int l.length) := rfl
@[simp] theorem gInt_i : gInt [.int i] = some (.int i) := rfl
@[simp] theorem gInt_b : gInt [.bool b] = some (.int (if b then 1 else 0)) := rfl
@[simp] theorem gTuple_l : gTuple [.list l] = some (.tuple l) := rfl
@[simp] theorem gTuple_t : gTuple [.tuple l] = some (.tuple l) := rfl
@[simp] theorem gList_l : gList [.list l] = some l := rfl
@[simp] theorem gList_t : gList [.tuple l] = some l := rfl
@[simp] theorem itA_l : itA (.list l) = some l := rfl
@[simp] theorem itA_t : itA (.tuple l) = some l := rfl
@[simp] theorem box_li : (Box.li l).data = .list l := rfl
@[simp] theorem box_dk {es : List (D × D)} : (Box.dk es).data = .dict es := rfl
@[simp] theorem gMin_ii : gMin [.int i, .int j] = some (.int (if j < i then j else i)) := rfl
theorem eqv_ii : PyData.eqv (.int i) (.int j) = decide (i = j) := by
  show (i == j) = _
  rw [int_beq]
@[simp] theorem shaped_i : SeqAt.shaped (.int i) = true := rfl
theorem canLay_ints : ∀ ns : List Int, PyData.canLayAll0 (ns.map .int) = true
  | [] => rfl
  | n :: r => by rw [List.map_cons, PyData.canLayAll0, canLay_ints r]; rfl
theorem any_ints (a : Int) : ∀ ns : List Int, ((ns.map PyData.int).any fun y => PyData.eqv y (.int a)) = decide (a ∈ ns)
  | [] => by simp
  | n :: r => by
    rw [List.map_cons, List.any_cons, any_ints a r, eqv_ii]
    by_cases h : n = a
    · subst h; simp
    · simp [h, Ne.symm h]
theorem gInA_ints_t (a : Int) (ns : List Int) : gInA (.int a) (.tuple (ns.map .int)) = some (.bool (decide (a ∈ ns))) := by
  show (if (true && PyData.canLayAll0 (ns.map .int)) = true then some ((ns.map PyData.int).any fun y => PyData.eqv y (.int a)) else none).map _ = _
  rw [canLay_ints, any_ints]
  rfl
theorem gInA_ints_l (a : Int) (ns : List Int) : gInA (.int a) (.list (ns.map .int)) = some (.bool (decide (a ∈ ns))) := by
  show (if (true && PyData.canLayAll0 (ns.map .int)) = true then some ((ns.map PyData.int).any fun y => PyData.eqv y (.int a)) else none).map _ = _
  rw [canLay_ints, any_ints]
  rfl
theorem gNotInA_ints_t (a : Int) (ns : List Int) : gNotInA (.int a) (.tuple (ns.map .int)) = some (.bool (!decide (a ∈ ns))) := by
  show ((if (true && PyData.canLayAll0 (ns.map .int)) = true then some ((ns.map PyData.int).any fun y => PyData.eqv y (.int a)) else none)).map _ = _
  rw [canLay_ints, any_ints]
  rfl
theorem gNotInA_ints_l (a : Int) (ns : List Int) : gNotInA (.int a) (.list (ns.map .int)) = some (.bool (!decide (a ∈ ns))) := by
  show ((if (true && PyData.canLayAll0 (ns.map .int)) = true then some ((ns.map PyData.int).any fun y => PyData.eqv y (.int a)) else none)).map _ = _
  rw [canLay_ints, any_ints]
  rfl
end
/-! equality of data -/
theorem eqvAll_eq {α : Type} (enc : α → D) (h : ∀ a b, PyData.eqv (enc a) (enc b) = true ↔ a = b) : ∀ xs ys : List α, PyData.eqvAll (xs.map enc) (ys.map enc) = true ↔ xs = ys
  | [], [] => by simp [PyData.eqvAll]
  | [], _ :: _ => by simp [PyData.eqvAll]
  | _ :: _, [] => by simp [PyData.eqvAll]
  | x :: xs, y :: ys => by
    rw [List.map_cons, List.map_cons, PyData.eqvAll, Bool.and_eq_true, h, eqvAll_eq enc h xs ys]
    simp
mutual
theorem eqv_refl : ∀ d : D, SeqAt.shaped d = true → PyData.eqv d d = true
  | .none, _ => rfl
  | .bool b, _ => by simp [PyData.eqv]
  | .int i, _ => by simp [PyData.eqv]
  | .str x, _ => by simp [PyData.eqv]
  | .list l, h => by rw [PyData.eqv]; exact eqvAll_refl l (by unfold SeqAt.shaped at h; rw [Bool.and_eq_true] at h; exact h.1)
  | .tuple l, h => by rw [PyData.eqv]; exact eqvAll_refl l (by unfold SeqAt.shaped at h; rw [Bool.and_eq_true] at h; exact h.1)
  | .dict l, h => by unfold SeqAt.shaped at h; rw [Bool.and_eq_true] at h; cases h.1
theorem eqvAll_refl : ∀ l : List D, PyData.canLayAll0 l = true → PyData.eqvAll l l = true
  | [], _ => rfl
  | d :: r, h => by
    rw [PyData.canLayAll0, Bool.and_eq_true] at h
    rw [PyData.eqvAll, eqvAll_refl r h.2, eqv_refl0 d h.1]
    rfl
theorem eqv_refl0 : ∀ d : D, PyData.canLay0 d = true → PyData.eqv d d = true
  | .none, _ => rfl
  | .bool b, _ => by simp [PyData.eqv]
  | .int i, _ => by simp [PyData.eqv]
  | .str x, _ => by simp [PyData.eqv]
  | .list l, h => by rw [PyData.eqv]; exact eqvAll_refl l h
  | .tuple l, h => by rw [PyData.eqv]; exact eqvAll_refl l h
  | .dict l, h => by cases h
end
theorem gEq_same {d : D} (h : SeqAt.shaped d = true) : gEq d d = some (.bool true) := by
  unfold gEq
  rw [h, eqv_refl d h]
  rfl
theorem gNe_same {d : D} (h : SeqAt.shaped d = true) : gNe d d = some (.bool false) := by
  unfold gNe
  rw [h, eqv_refl d h]
  rfl

/-! ### calls -/
theorem call_rt {f : Fn} {n : Nat} {rs : List R} {ρ : Rho} {args : List SV} {d : D} (h1 : rs.length = n) (h2 : once rs = true) (h3 : toArgs ρ rs = some args) (h4 : ans (f args) = some d) (h5 : ∀ ρ', back rs ρ' ρ = some ρ) : callD f n rs ρ = .ok (.v d) ρ := by
  obtain ⟨ρ', e⟩ := ans_rt h4
  unfold callD
  rw [if_pos (by rw [h2, h1]; simp), h3]
  simp only [e, callEnd, h5]
theorem callV0 {f : Fn} {ρ : Rho} {d : D} (h : ans (f []) = some d) : callD f 0 [] ρ = .ok (.v d) ρ := call_rt rfl rfl rfl h fun _ => rfl
theorem callV1 {f : Fn} {ρ : Rho} {a d : D} (h : ans (f [.val a]) = some d) : callD f 1 [.v a] ρ = .ok (.v d) ρ := call_rt rfl rfl rfl h fun _ => rfl
theorem callV2 {f : Fn} {ρ : Rho} {a b d : D} (h : ans (f [.val a, .val b]) = some d) : callD f 2 [.v a, .v b] ρ = .ok (.v d) ρ := call_rt rfl rfl rfl h fun _ => rfl
theorem callV3 {f : Fn} {ρ : Rho} {a b c d : D} (h : ans (f [.val a, .val b, .val c]) = some d) : callD f 3 [.v a, .v b, .v c] ρ = .ok (.v d) ρ := call_rt rfl rfl rfl h fun _ => rfl
theorem callV4 {f : Fn} {ρ : Rho} {a b c e d : D} (h : ans (f [.val a, .val b, .val c, .val e]) = some d) : callD f 4 [.v a, .v b, .v c, .v e] ρ = .ok (.v d) ρ := call_rt rfl rfl rfl h fun _ => rfl
theorem callV5 {f : Fn} {ρ : Rho} {a b c e g d : D} (h : ans (f [.val a, .val b, .val c, .val e, .val g]) = some d) : callD f 5 [.v a, .v b, .v c, .v e, .v g] ρ = .ok (.v d) ρ := call_rt rfl rfl rfl h fun _ => rfl
/-- what a def with a list that is changed in place answers: the datum, and that list -/
def ansIo : SRes → Option (D × SV)
  | .rt d (s :: _) => some (d, s)
  | _ => none
theorem ansIo_rt {r : SRes} {d : D} {s : SV} (h : ansIo r = some (d, s)) : ∃ ρ, r = .rt d (s :: ρ) := by
  cases r with
  | rt d ρ =>
    cases ρ with
    | nil => cases h
    | cons s ρ => cases h; exact ⟨ρ, rfl⟩
  | _ => cases h
/-- the first argument is a list of one's own, the others data -/
theorem call_io {f : Fn} {n i : Nat} {rs : List R} {ρ : Rho} {args : List SV} {b b' : Box} {s : SV} {d : D} (h1 : rs.length + 1 = n) (hi : ρ[i]? = some s) (hs : s.box = some b) (h2 : once (.b i :: rs) = true) (h3 : toArgs ρ rs = some args) (h4 : ansIo (f (.iol b :: args)) = some (d, .iol b'))
    (h5 : ∀ ss ρ', back rs ss ρ' = some ρ') : callD f n (.b i :: rs) ρ = .ok (.v d) (ρ.set i (s.with b')) := by
  obtain ⟨ρ', e⟩ := ansIo_rt h4
  unfold callD
  rw [if_pos (by rw [h2, ← h1]; simp)]
  have ha : toArgs ρ (.b i :: rs) = some (.iol b :: args) := by
    unfold toArgs
    rw [hi, h3]
    cases s with
    | lst l => cases hs; rfl
    | iol l => cases hs; rfl
    | _ => cases hs
  simp only [ha, e, callEnd]
  unfold back
  rw [hi]
  cases s with
  | lst l => cases hs; simp [h5, SV.with]
  | iol l => cases hs; simp [h5, SV.with]
  | _ => cases hs

/-! ### loops, comprehensions -/
/-- one turn of a comprehension -/
def lcStep (own : List Nat) (t : Tgt) (mt : M Bool) (me : M D) (x : D) (ρ : Rho) : Res (Option D) := match wipeR own ρ with
  | none => .bad
  | some ρ0 => match t x ρ0 with
    | none => .bad
    | some ρ1 => match mt ρ1 with
      | .ok true ρ2 => (match me ρ2 with
        | .ok d ρ3 => .ok (some d) (unwipe own ρ ρ3)
        | _ => .bad)
      | .ok false ρ2 => .ok none (unwipe own ρ ρ2)
      | _ => .bad
theorem lc_cons {own : List Nat} {t : Tgt} {mt : M Bool} {me : M D} {x : D} {xs : List D} {ρ : Rho} : lcLoop own t mt me (x :: xs) ρ = (match lcStep own t mt me x ρ with
    | .ok o ρ' => (match lcLoop own t mt me xs ρ' with
      | .ok ds ρ2 => .ok (o.toList ++ ds) ρ2
      | _ => .bad)
    | _ => .bad) := by
  conv => lhs; unfold lcLoop
  unfold lcStep
  cases wipeR own ρ with
  | none => rfl
  | some ρ0 =>
    dsimp only
    cases t x ρ0 with
    | none => rfl
    | some ρ1 =>
      dsimp only
      cases mt ρ1 with
      | bad => rfl
      | exc _ _ => rfl
      | ok b ρ2 =>
        cases b with
        | false =>
          dsimp only
          cases q : lcLoop own t mt me xs (unwipe own ρ ρ2) with
          | ok ds ρ' => rfl
          | bad => rfl
          | exc x ρ' =>
            exfalso
            exact lc_noexc q
        | true =>
          dsimp only
          cases me ρ2 with
          | bad => rfl
          | exc _ _ => rfl
          | ok d ρ3 =>
            dsimp only
            cases lcLoop own t mt me xs (unwipe own ρ ρ3) <;> rfl
where lc_noexc {own : List Nat} {t : Tgt} {mt : M Bool} {me : M D} : ∀ {l : List D} {ρ ρ' : Rho} {x : String}, lcLoop own t mt me l ρ = .exc x ρ' → False
  | [], _, _, _, h => by cases h
  | y :: ys, ρ, ρ', x, e => by
    unfold lcLoop at e
    cases z1 : wipeR own ρ with
    | none => simp only [z1] at e; cases e
    | some ρ0 =>
      simp only [z1] at e
      cases z2 : t y ρ0 with
      | none => simp only [z2] at e; cases e
      | some ρ1 =>
        simp only [z2] at e
        cases z3 : mt ρ1 with
        | bad => simp only [z3] at e; cases e
        | exc _ _ => simp only [z3] at e; cases e
        | ok b ρ3 =>
          cases b with
          | false => simp only [z3] at e; exact lc_noexc e
          | true =>
            simp only [z3] at e
            cases z4 : me ρ3 with
            | bad => simp only [z4] at e; cases e
            | exc _ _ => simp only [z4] at e; cases e
            | ok d ρ4 =>
              simp only [z4] at e
              cases z5 : lcLoop own t mt me ys (unwipe own ρ ρ4) with
              | bad => simp only [z5] at e; cases e
              | exc _ _ => simp only [z5] at e; cases e
              | ok _ _ => simp only [z5] at e; cases e
/-- each item gives what h says, the slots stay -/
theorem lc_pure {own : List Nat} {t : Tgt} {mt : M Bool} {me : M D} {ρ : Rho} {h : D → Option D} : ∀ {l : List D}, (∀ x ∈ l, lcStep own t mt me x ρ = .ok (h x) ρ) → lcLoop own t mt me l ρ = .ok (l.filterMap h) ρ
  | [], _ => rfl
  | x :: xs, hx => by
    rw [lc_cons, hx x List.mem_cons_self]
    dsimp only
    rw [lc_pure fun y hy => hx y (List.mem_cons_of_mem _ hy)]
    dsimp only
    cases q : h x with
    | none => rw [List.filterMap_cons_none q]; rfl
    | some d => rw [List.filterMap_cons_some q]; rfl
/-- .. over encoded items -/
theorem lc_map {α : Type} {own : List Nat} {t : Tgt} {mt : M Bool} {me : M D} {ρ : Rho} (enc : α → D) (h : α → Option D) : ∀ (l : List α), (∀ x ∈ l, lcStep own t mt me (enc x) ρ = .ok (h x) ρ) → lcLoop own t mt me (l.map enc) ρ = .ok (l.filterMap h) ρ
  | [], _ => rfl
  | x :: xs, hx => by
    rw [List.map_cons, lc_cons, hx x List.mem_cons_self]
    dsimp only
    rw [lc_map enc h xs fun y hy => hx y (List.mem_cons_of_mem _ hy)]
    dsimp only
    cases q : h x with
    | none => rw [List.filterMap_cons_none q]; rfl
    | some d => rw [List.filterMap_cons_some q]; rfl
theorem filterMap_all {α β : Type} (g : α → β) (l : List α) : (l.filterMap fun x => some (g x)) = l.map g := by
  induction l with
  | nil => rfl
  | cons x r ih => simp
theorem fm_if {α β : Type} (p : α → Prop) [DecidablePred p] (g : α → β) (l : List α) : (l.filterMap fun x => if p x then some (g x) else none) = (l.filter fun x => decide (p x)).map g := by
  induction l with
  | nil => rfl
  | cons x r ih =>
    by_cases h : p x
    · simp [h, ih]
    · simp [h, ih]
/-- a loop whose body goes on -/
theorem loop_nx {α σ : Type} {t : Tgt} {b : MS} (enc : α → D) (st : σ → Rho) (F : σ → α → σ) : ∀ (l : List α) (s : σ), (∀ x ∈ l, ∀ s, ∃ ρ1, t (enc x) (st s) = some ρ1 ∧ (b ρ1 = .nx (st (F s x)) ∨ b ρ1 = .ct (st (F s x)))) → sLoop t b (l.map enc) (st s) = .nx (st (l.foldl F s))
  | [], s, _ => rfl
  | x :: xs, s, h => by
    obtain ⟨ρ1, h1, h2⟩ := h x List.mem_cons_self s
    rw [List.map_cons]
    unfold sLoop
    rw [h1]
    dsimp only
    rcases h2 with h2 | h2
    · rw [h2]; exact loop_nx enc st F xs _ fun y hy => h y (List.mem_cons_of_mem _ hy)
    · rw [h2]; exact loop_nx enc st F xs _ fun y hy => h y (List.mem_cons_of_mem _ hy)
end VL

set_option Elab.async false
set_option linter.all false
set_option autoImplicit false
set_option maxRecDepth 100000
set_option maxHeartbeats 4000000
namespace VL
open PySem PySem.Spec PyProof.Rows L2
/-! ### the law's own draw -/
def drawM : MS := sSeq (sIf (mB (mOp2 gLt (mOp2 gIxA (mVar 0) (mConst (.int 0))) (mVar 1))) (sSeq (sAsg (mOp2 gIxA (mVar 0) (mConst (.int 1))) (gN 2))
  (sSeq (sSetI "list" 0 gSetA (mConst (.int 1)) (mOp2 gAdd (mVar 2) (mConst (.int 1))))
  (sSeq (sAsg (mConst (.int 0)) (gN 3))
  (sSeq (sIf (mB (mOp2 gLt (mVar 2) (mOpN gLen (mCons (mOp2 gIxA (mVar 0) (mConst (.int 2))) (mNil))))) (sAsg (mOp2 gIxA (mOp2 gIxA (mVar 0) (mConst (.int 2))) (mVar 2)) (gN 3)) (sNext))
  (sIf (mB (mOp2 gGe (mVar 3) (mOp2 gPow (mConst (.int 10)) (mConst (.int 18))))) (sSetI "list" 0 gSetA (mConst (.int 0)) (mVar 3)) (sSeq (sSetI "list" 0 gSetA (mConst (.int 3)) (mOp2 gMod (mOpN gInt (mCons (mOp2 gMul (mOp2 gAdd (mOp2 gAdd (mOp2 gAdd (mOp2 gIxA (mVar 0) (mConst (.int 3))) (mOp2 gMod (mOpN gInt (mCons (mVar 3) (mNil))) (mConst (.int 2147483629)))) (mVar 2)) (mConst (.int 1))) (mConst (.int 48271))) (mNil))) (mConst (.int 2147483647))))
  (sSeq (sAsg (mOp2 gMod (mOpN gInt (mCons (mOp2 gAdd (mOp2 gMul (mOp2 gIxA (mVar 0) (mConst (.int 3))) (mConst (.int 69621))) (mConst (.int 11))) (mNil))) (mConst (.int 2147483629))) (gN 4))
  (sSetI "list" 0 gSetA (mConst (.int 0)) (mOp2 gAdd (mOp2 gMul (mVar 4) (mConst (.int 2147483647))) (mOp2 gMod (mOpN gInt (mCons (mOp2 gAdd (mOp2 gMul (mVar 4) (mConst (.int 30011))) (mOp2 gIxA (mVar 0) (mConst (.int 3)))) (mNil))) (mConst (.int 2147483587)))))))))))) (sNext))
  (sSeq (sAsg (mOp2 gMod (mOpN gInt (mCons (mOp2 gIxA (mVar 0) (mConst (.int 0))) (mNil))) (mVar 1)) (gN 5))
  (sSeq (sSetI "list" 0 gSetA (mConst (.int 0)) (mOp2 gFdiv (mOp2 gIxA (mVar 0) (mConst (.int 0))) (mVar 1)))
  (sRet (mVar 5))))
def drawF : Fn := fnM 6 2 drawM
/-- the law's state -/
def stD (a p : Int) (sc : List Int) (c : Int) : Box := .li [.int a, .int p, .list (sc.map .int), .int c]
structure StOk (b : Box) (sc : List Int) : Prop where
  is : ∃ (a c : Int) (p : Nat), b = stD a p sc c
theorem atI_nat {α : Type} (l : List α) (p : Nat) : atI l (p : Int) = l[p]? := by
  unfold atI ixN
  rw [if_pos (by omega)]
  by_cases h : p < l.length
  · rw [if_pos (by omega)]; simp
  · rw [if_neg (by omega), List.getElem?_eq_none (by omega)]; rfl
@[simp] theorem ixN4_0 : ixN 4 0 = some 0 := rfl
@[simp] theorem ixN4_1 : ixN 4 1 = some 1 := rfl
@[simp] theorem ixN4_3 : ixN 4 3 = some 3 := rfl
theorem gSetA_0 {w x y z v : D} : gSetA (.li [w, x, y, z]) (.int 0) v = some (.li [v, x, y, z]) := rfl
theorem gSetA_1 {w x y z v : D} : gSetA (.li [w, x, y, z]) (.int 1) v = some (.li [w, v, y, z]) := rfl
theorem gSetA_3 {w x y z v : D} : gSetA (.li [w, x, y, z]) (.int 3) v = some (.li [w, x, y, v]) := rfl
theorem at0 {w x y z : D} : atI [w, x, y, z] 0 = some w := rfl
theorem at1 {w x y z : D} : atI [w, x, y, z] 1 = some x := rfl
theorem at2 {w x y z : D} : atI [w, x, y, z] 2 = some y := rfl
theorem at3 {w x y z : D} : atI [w, x, y, z] 3 = some z := rfl
@[simp] theorem sSetI_run {T : String} {i : Nat} {g : Box → D → D → Option Box} {mi mv : M R} {ρ : Rho} : sSetI T i g mi mv ρ = (match mFrz mv ρ with | .ok d ρ' => (match mOwn T i mi ρ' with | .ok r ρ2 => (match look ρ2 r, ρ2[i]? with | some e, some s => (match s.box with | some b => (match g b e d with | some b' => .nx (ρ2.set i (s.with b')) | none => .bad) | none => .bad) | _, _ => .bad) | .exc x ρ2 => .exc x ρ2 | .bad => .bad) | .exc x ρ' => .exc x ρ' | .bad => .bad):= by
  show sBind _ _ ρ = _
  rw [sBind_run]
  cases mFrz mv ρ with
  | bad => rfl
  | exc _ _ => rfl
  | ok d ρ' =>
    dsimp only
    show sBind _ _ ρ' = _
    rw [sBind_run]
    cases mOwn T i mi ρ' <;> rfl
@[simp] theorem mOwn_run {α : Type} {T : String} {i : Nat} {m : M α} {ρ : Rho} : mOwn T i m ρ = (match ρ[i]? with | some s => (match s.box with | some b => if tyBox T b = true then m ρ else .bad | none => .bad) | none => .bad) := rfl
@[simp] theorem box_iol {b : Box} : (SV.iol b).box = some b := rfl
@[simp] theorem box_lst {b : Box} : (SV.lst b).box = some b := rfl
@[simp] theorem with_iol {b c : Box} : (SV.iol b).with c = .iol c := rfl
@[simp] theorem with_lst {b c : Box} : (SV.lst b).with c = .lst c := rfl
@[simp] theorem ty_list {l : List D} : tyBox "list" (.li l) = true := rfl
@[simp] theorem gLen_ints {l : List Int} : gLen [.list (l.map .int)] = some (.int l.length) := by simp
theorem mulOk_r {i j : Int} (h1 : -18446744073709551616 < j) (h2 : j < 18446744073709551616) : mulOk i j = true := by
  unfold mulOk
  rw [Bool.or_eq_true, decide_eq_true_eq, decide_eq_true_eq]
  omega
theorem draw_end {a c n : Int} {p : Nat} {sc : List Int} {s2 s3 s4 : SV} (h0 : 0 < n) (h1 : n < 1073741824) :
    ansIo (sSeq (sAsg (mOp2 gMod (mOpN gInt (mCons (mOp2 gIxA (mVar 0) (mConst (.int 0))) (mNil))) (mVar 1)) (gN 5))
  (sSeq (sSetI "list" 0 gSetA (mConst (.int 0)) (mOp2 gFdiv (mOp2 gIxA (mVar 0) (mConst (.int 0))) (mVar 1)))
  (sRet (mVar 5))) [.iol (stD a p sc c), .val (.int n), s2, s3, s4, .no]) = some (.int (a.fmod n), .iol (stD (a.fdiv n) p sc c)) := by
  have e1 : n ≠ 0 := by omega
  have e2 : n.natAbs < 1073741824 := by omega
  simp [stD, at0, gSetA_0, ansIo, e1, e2]
theorem draw_ok {b : Box} {sc : List Int} {n : Int} (h : StOk b sc) (h0 : 0 < n) (h1 : n < 1073741824) : ∃ (b' : Box) (r : Int), StOk b' sc ∧ 0 ≤ r ∧ r < n ∧ ansIo (drawF [.iol b, .val (.int n)]) = some (.int r, .iol b') := by
  obtain ⟨a, c, p, rfl⟩ := h.is
  have e1 : n ≠ 0 := by omega
  have e2 : n.natAbs < 1073741824 := by omega
  suffices z : ∃ (a' c' p' : Int), ansIo (drawF [.iol (stD a p sc c), .val (.int n)]) = some (PyData.int (a'.fmod n), SV.iol (stD (a'.fdiv n) p' sc c')) ∧ 0 ≤ p' by
    obtain ⟨a', c', p', e, hp⟩ := z
    exact ⟨_, _, ⟨_, c', p'.toNat, by rw [show ((p'.toNat : Nat) : Int) = p' by omega]⟩, Int.fmod_nonneg_of_pos _ h0, Int.fmod_lt_of_pos _ h0, e⟩
  have m1 : ∀ x : Int, mulOk x 48271 = true := fun x => mulOk_r (by decide) (by decide)
  have m2 : ∀ x : Int, mulOk x 69621 = true := fun x => mulOk_r (by decide) (by decide)
  have m3 : ∀ x : Int, mulOk x 2147483647 = true := fun x => mulOk_r (by decide) (by decide)
  have m4 : ∀ x : Int, mulOk x 30011 = true := fun x => mulOk_r (by decide) (by decide)
  by_cases hlt : a < n
  · have pp : ((p : Int) + 1) = ((p + 1 : Nat) : Int) := by omega
    by_cases hp : p < sc.length
    · have hcell : (sc.map PyData.int)[p]? = some (.int sc[p]) := by rw [List.getElem?_map, List.getElem?_eq_getElem hp]; rfl
      by_cases hbig : (1000000000000000000 : Int) ≤ sc[p]
      · refine ⟨sc[p], c, p + 1, ?_, by omega⟩
        simp [drawF, fnM, drawM, stD, at0, at1, at2, at3, gSetA_0, gSetA_1, gSetA_3, hlt, hp, hcell, hbig, ansIo, e1, e2, atI_nat, List.replicate]
      · apply Exists.intro; apply Exists.intro; refine ⟨p + 1, ?_, by omega⟩
        simp (config := {maxSteps := 2000000}) [drawF, fnM, drawM, stD, at0, at1, at2, at3, gSetA_0, gSetA_1, gSetA_3, hlt, hp, hcell, hbig, ansIo, e1, e2, atI_nat, List.replicate, m1, m2, m3, m4]
        exact ⟨rfl, rfl, rfl⟩
    · apply Exists.intro; apply Exists.intro; refine ⟨p + 1, ?_, by omega⟩
      simp (config := {maxSteps := 2000000}) [drawF, fnM, drawM, stD, at0, at1, at2, at3, gSetA_0, gSetA_1, gSetA_3, hlt, hp, ansIo, e1, e2, atI_nat, List.replicate, m1, m2, m3, m4]
      exact ⟨rfl, rfl, rfl⟩
  · refine ⟨a, c, p, ?_, by omega⟩
    simp [drawF, fnM, drawM, stD, at0, at1, at2, at3, gSetA_0, gSetA_1, gSetA_3, hlt, ansIo, e1, e2, List.replicate]
end VL

set_option Elab.async false
set_option linter.all false
set_option autoImplicit false
set_option maxRecDepth 100000
set_option maxHeartbeats 0
namespace K20
open PySem PySem.Spec PyProof.Rows L2 VL
/-! ### the text -/
def top (i : Nat) : Stmt := PySem.Challenge.pw_allsounded_k20_syllables_sung_and_phrase.main.body.getD i (.Pass ⟨0, 0, 0, 0⟩)
abbrev s_is_integer : Stmt := top 4
def N_is_integer : List Str := ["value", "low", "high"]
abbrev ps_is_integer : List Str := ["value", "low", "high"]
theorem sc_is_integer : FnScope N_is_integer ps_is_integer (defScope s_is_integer) := ⟨rfl, rfl, rfl, by decide +kernel, rfl, by decide +kernel, by decide +kernel⟩
abbrev s_bases_between : Stmt := top 11
def N_bases_between : List Str := ["low", "high", "height"]
abbrev ps_bases_between : List Str := ["low", "high"]
theorem sc_bases_between : FnScope N_bases_between ps_bases_between (defScope s_bases_between) := ⟨rfl, rfl, rfl, by decide +kernel, rfl, by decide +kernel, by decide +kernel⟩
abbrev s_all_bases : Stmt := top 12
def N_all_bases : List Str := ["height"]
abbrev ps_all_bases : List Str := []
theorem sc_all_bases : FnScope N_all_bases ps_all_bases (defScope s_all_bases) := ⟨rfl, rfl, rfl, by decide +kernel, rfl, by decide +kernel, by decide +kernel⟩
abbrev s_tones_of : Stmt := top 13
def N_tones_of : List Str := ["base", "height"]
abbrev ps_tones_of : List Str := ["base"]
theorem sc_tones_of : FnScope N_tones_of ps_tones_of (defScope s_tones_of) := ⟨rfl, rfl, rfl, by decide +kernel, rfl, by decide +kernel, by decide +kernel⟩
abbrev s_syllable_of : Stmt := top 14
def N_syllable_of : List Str := ["base", "height", "gap"]
abbrev ps_syllable_of : List Str := ["base", "height"]
theorem sc_syllable_of : FnScope N_syllable_of ps_syllable_of (defScope s_syllable_of) := ⟨rfl, rfl, rfl, by decide +kernel, rfl, by decide +kernel, by decide +kernel⟩
abbrev s_names_of : Stmt := top 15
def N_names_of : List Str := ["height", "base"]
abbrev ps_names_of : List Str := ["height"]
theorem sc_names_of : FnScope N_names_of ps_names_of (defScope s_names_of) := ⟨rfl, rfl, rfl, by decide +kernel, rfl, by decide +kernel, by decide +kernel⟩
abbrev s_is_in_hand : Stmt := top 16
def N_is_in_hand : List Str := ["height"]
abbrev ps_is_in_hand : List Str := ["height"]
theorem sc_is_in_hand : FnScope N_is_in_hand ps_is_in_hand (defScope s_is_in_hand) := ⟨rfl, rfl, rfl, by decide +kernel, rfl, by decide +kernel, by decide +kernel⟩
abbrev s_fewest_changes : Stmt := top 17
def N_fewest_changes : List Str := ["heights", "best", "height", "made", "base", "_", "rows", "before"]
abbrev ps_fewest_changes : List Str := ["heights"]
theorem sc_fewest_changes : FnScope N_fewest_changes ps_fewest_changes (defScope s_fewest_changes) := ⟨rfl, rfl, rfl, by decide +kernel, rfl, by decide +kernel, by decide +kernel⟩
abbrev s_sung : Stmt := top 18
def N_sung : List Str := ["heights", "found", "base", "height"]
abbrev ps_sung : List Str := ["heights"]
theorem sc_sung : FnScope N_sung ps_sung (defScope s_sung) := ⟨rfl, rfl, rfl, by decide +kernel, rfl, by decide +kernel, by decide +kernel⟩
abbrev s_changes_at : Stmt := top 19
def N_changes_at : List Str := ["bases", "place"]
abbrev ps_changes_at : List Str := ["bases"]
theorem sc_changes_at : FnScope N_changes_at ps_changes_at (defScope s_changes_at) := ⟨rfl, rfl, rfl, by decide +kernel, rfl, by decide +kernel, by decide +kernel⟩
abbrev s_judge_sung : Stmt := top 20
def N_judge_sung : List Str := ["heights", "bases", "place", "base", "height"]
abbrev ps_judge_sung : List Str := ["heights", "bases"]
theorem sc_judge_sung : FnScope N_judge_sung ps_judge_sung (defScope s_judge_sung) := ⟨rfl, rfl, rfl, by decide +kernel, rfl, by decide +kernel, by decide +kernel⟩
abbrev s_kind_of : Stmt := top 21
def N_kind_of : List Str := ["base"]
abbrev ps_kind_of : List Str := ["base"]
theorem sc_kind_of : FnScope N_kind_of ps_kind_of (defScope s_kind_of) := ⟨rfl, rfl, rfl, by decide +kernel, rfl, by decide +kernel, by decide +kernel⟩
abbrev s_shared_by : Stmt := top 22
def N_shared_by : List Str := ["one", "two", "height"]
abbrev ps_shared_by : List Str := ["one", "two"]
theorem sc_shared_by : FnScope N_shared_by ps_shared_by (defScope s_shared_by) := ⟨rfl, rfl, rfl, by decide +kernel, rfl, by decide +kernel, by decide +kernel⟩
abbrev s_heights_sung : Stmt := top 23
def N_heights_sung : List Str := ["first", "syllables", "found", "word"]
abbrev ps_heights_sung : List Str := ["first", "syllables"]
theorem sc_heights_sung : FnScope N_heights_sung ps_heights_sung (defScope s_heights_sung) := ⟨rfl, rfl, rfl, by decide +kernel, rfl, by decide +kernel, by decide +kernel⟩
abbrev s_is_plan : Stmt := top 26
def N_is_plan : List Str := ["value"]
abbrev ps_is_plan : List Str := ["value"]
theorem sc_is_plan : FnScope N_is_plan ps_is_plan (defScope s_is_plan) := ⟨rfl, rfl, rfl, by decide +kernel, rfl, by decide +kernel, by decide +kernel⟩
abbrev s_length_of : Stmt := top 27
def N_length_of : List Str := ["plan", "phrase", "rest", "times"]
abbrev ps_length_of : List Str := ["plan"]
theorem sc_length_of : FnScope N_length_of ps_length_of (defScope s_length_of) := ⟨rfl, rfl, rfl, by decide +kernel, rfl, by decide +kernel, by decide +kernel⟩
abbrev s_end_from : Stmt := top 28
def N_end_from : List Str := ["plan", "cycle", "start"]
abbrev ps_end_from : List Str := ["plan", "cycle", "start"]
theorem sc_end_from : FnScope N_end_from ps_end_from (defScope s_end_from) := ⟨rfl, rfl, rfl, by decide +kernel, rfl, by decide +kernel, by decide +kernel⟩
abbrev s_start_for : Stmt := top 29
def N_start_for : List Str := ["plan", "cycle"]
abbrev ps_start_for : List Str := ["plan", "cycle"]
theorem sc_start_for : FnScope N_start_for ps_start_for (defScope s_start_for) := ⟨rfl, rfl, rfl, by decide +kernel, rfl, by decide +kernel, by decide +kernel⟩
abbrev s_cycles_of : Stmt := top 30
def N_cycles_of : List Str := ["plan", "cycle"]
abbrev ps_cycles_of : List Str := ["plan", "cycle"]
theorem sc_cycles_of : FnScope N_cycles_of ps_cycles_of (defScope s_cycles_of) := ⟨rfl, rfl, rfl, by decide +kernel, rfl, by decide +kernel, by decide +kernel⟩
abbrev s_rests_for : Stmt := top 31
def N_rests_for : List Str := ["phrase", "times", "cycle", "start", "most", "rest"]
abbrev ps_rests_for : List Str := ["phrase", "times", "cycle", "start", "most"]
theorem sc_rests_for : FnScope N_rests_for ps_rests_for (defScope s_rests_for) := ⟨rfl, rfl, rfl, by decide +kernel, rfl, by decide +kernel, by decide +kernel⟩
abbrev s_phrases_for : Stmt := top 32
def N_phrases_for : List Str := ["rest", "times", "cycle", "start", "most", "phrase"]
abbrev ps_phrases_for : List Str := ["rest", "times", "cycle", "start", "most"]
theorem sc_phrases_for : FnScope N_phrases_for ps_phrases_for (defScope s_phrases_for) := ⟨rfl, rfl, rfl, by decide +kernel, rfl, by decide +kernel, by decide +kernel⟩
abbrev s_plans_filling : Stmt := top 33
def N_plans_filling : List Str := ["times", "cycle", "cycles", "whole", "found", "phrase", "left"]
abbrev ps_plans_filling : List Str := ["times", "cycle", "cycles"]
theorem sc_plans_filling : FnScope N_plans_filling ps_plans_filling (defScope s_plans_filling) := ⟨rfl, rfl, rfl, by decide +kernel, rfl, by decide +kernel, by decide +kernel⟩
abbrev s_strokes_at : Stmt := top 34
def N_strokes_at : List Str := ["plan", "cycle", "start", "phrase", "rest", "times", "number"]
abbrev ps_strokes_at : List Str := ["plan", "cycle", "start"]
theorem sc_strokes_at : FnScope N_strokes_at ps_strokes_at (defScope s_strokes_at) := ⟨rfl, rfl, rfl, by decide +kernel, rfl, by decide +kernel, by decide +kernel⟩
abbrev s_is_sounding : Stmt := top 35
def N_is_sounding : List Str := ["plan", "place"]
abbrev ps_is_sounding : List Str := ["plan", "place"]
theorem sc_is_sounding : FnScope N_is_sounding ps_is_sounding (defScope s_is_sounding) := ⟨rfl, rfl, rfl, by decide +kernel, rfl, by decide +kernel, by decide +kernel⟩
abbrev s_row_of : Stmt := top 36
def N_row_of : List Str := ["plan", "place"]
abbrev ps_row_of : List Str := ["plan"]
theorem sc_row_of : FnScope N_row_of ps_row_of (defScope s_row_of) := ⟨rfl, rfl, rfl, by decide +kernel, rfl, by decide +kernel, by decide +kernel⟩
abbrev s_nested : Stmt := top 37
def N_nested : List Str := ["inner", "rest", "times", "row", "found", "number"]
abbrev ps_nested : List Str := ["inner", "rest", "times"]
theorem sc_nested : FnScope N_nested ps_nested (defScope s_nested) := ⟨rfl, rfl, rfl, by decide +kernel, rfl, by decide +kernel, by decide +kernel⟩
abbrev s_nested_length : Stmt := top 38
def N_nested_length : List Str := ["inner", "rest", "times"]
abbrev ps_nested_length : List Str := ["inner", "rest", "times"]
theorem sc_nested_length : FnScope N_nested_length ps_nested_length (defScope s_nested_length) := ⟨rfl, rfl, rfl, by decide +kernel, rfl, by decide +kernel, by decide +kernel⟩
abbrev s_plan_of : Stmt := top 39
def N_plan_of : List Str := ["row", "times", "many", "phrase", "left"]
abbrev ps_plan_of : List Str := ["row", "times"]
theorem sc_plan_of : FnScope N_plan_of ps_plan_of (defScope s_plan_of) := ⟨rfl, rfl, rfl, by decide +kernel, rfl, by decide +kernel, by decide +kernel⟩
abbrev s_shrinking : Stmt := top 40
def N_shrinking : List Str := ["first", "step", "rest", "cycle", "lengths", "here", "whole"]
abbrev ps_shrinking : List Str := ["first", "step", "rest", "cycle"]
theorem sc_shrinking : FnScope N_shrinking ps_shrinking (defScope s_shrinking) := ⟨rfl, rfl, rfl, by decide +kernel, rfl, by decide +kernel, by decide +kernel⟩
abbrev s_first_rest : Stmt := top 41
def N_first_rest : List Str := ["phrase", "times", "cycle", "start", "found"]
abbrev ps_first_rest : List Str := ["phrase", "times", "cycle", "start"]
theorem sc_first_rest : FnScope N_first_rest ps_first_rest (defScope s_first_rest) := ⟨rfl, rfl, rfl, by decide +kernel, rfl, by decide +kernel, by decide +kernel⟩
abbrev s__law_draw : Stmt := top 43
def N__law_draw : List Str := ["state", "limit", "position", "cell", "mixed", "digit"]
abbrev ps__law_draw : List Str := ["state", "limit"]
theorem sc__law_draw : FnScope N__law_draw ps__law_draw (defScope s__law_draw) := ⟨rfl, rfl, rfl, by decide +kernel, rfl, by decide +kernel, by decide +kernel⟩
abbrev s__law_same : Stmt := top 44
def N__law_same : List Str := ["told", "due"]
abbrev ps__law_same : List Str := ["told", "due"]
theorem sc__law_same : FnScope N__law_same ps__law_same (defScope s__law_same) := ⟨rfl, rfl, rfl, by decide +kernel, rfl, by decide +kernel, by decide +kernel⟩
abbrev s__law_melody : Stmt := top 45
def N__law_melody : List Str := ["state", "found", "k", "base"]
abbrev ps__law_melody : List Str := ["state"]
theorem sc__law_melody : FnScope N__law_melody ps__law_melody (defScope s__law_melody) := ⟨rfl, rfl, rfl, by decide +kernel, rfl, by decide +kernel, by decide +kernel⟩
abbrev s__law_sung : Stmt := top 46
def N__law_sung : List Str := ["state", "heights", "told", "least", "bases", "k", "other", "height", "rows", "place", "wrong"]
abbrev ps__law_sung : List Str := ["state", "heights"]
theorem sc__law_sung : FnScope N__law_sung ps__law_sung (defScope s__law_sung) := ⟨rfl, rfl, rfl, by decide +kernel, rfl, by decide +kernel, by decide +kernel⟩
abbrev s__law_hand : Stmt := top 47
def N__law_hand : List Str := ["state", "bases", "names", "base", "tones", "tone", "one", "two", "words", "k", "height", "step"]
abbrev ps__law_hand : List Str := ["state"]
theorem sc__law_hand : FnScope N__law_hand ps__law_hand (defScope s__law_hand) := ⟨rfl, rfl, rfl, by decide +kernel, rfl, by decide +kernel, by decide +kernel⟩
abbrev s__law_sounding : Stmt := top 48
def N__law_sounding : List Str := ["plan", "place"]
abbrev ps__law_sounding : List Str := ["plan", "place"]
theorem sc__law_sounding : FnScope N__law_sounding ps__law_sounding (defScope s__law_sounding) := ⟨rfl, rfl, rfl, by decide +kernel, rfl, by decide +kernel, by decide +kernel⟩
abbrev s__law_planned : Stmt := top 49
def N__law_planned : List Str := ["state", "phrase", "rest", "times", "plan", "cycle", "start", "row", "told", "fewest", "low", "cycles", "rows", "read", "gap", "step", "lengths", "begin", "whole", "one", "place", "sign", "k"]
abbrev ps__law_planned : List Str := ["state"]
theorem sc__law_planned : FnScope N__law_planned ps__law_planned (defScope s__law_planned) := ⟨rfl, rfl, rfl, by decide +kernel, rfl, by decide +kernel, by decide +kernel⟩
abbrev s_law : Stmt := top 50
def N_law : List Str := ["script", "state"]
abbrev ps_law : List Str := ["script"]
theorem sc_law : FnScope N_law ps_law (defScope s_law) := ⟨rfl, rfl, rfl, by decide +kernel, rfl, by decide +kernel, by decide +kernel⟩
/-! ### what stands behind the top -/
structure Top (K : PySem.W.Frag) (mg : Str → Option Value) where
  a_is_integer : Addr
  fd_is_integer : FuncData
  F_is_integer : FunD K "is_integer" "is_integer" (defArgs s_is_integer) (defBody s_is_integer) (defScope s_is_integer) [] [] a_is_integer fd_is_integer
  g_is_integer : mg "is_integer" = some (.ref a_is_integer)
  k_is_integer : PySem.W.keepIn K (.ref a_is_integer) = true
  b_is_integer : Binds K fd_is_integer ps_is_integer []
  a_bases_between : Addr
  fd_bases_between : FuncData
  F_bases_between : FunD K "bases_between" "bases_between" (defArgs s_bases_between) (defBody s_bases_between) (defScope s_bases_between) [] [] a_bases_between fd_bases_between
  g_bases_between : mg "bases_between" = some (.ref a_bases_between)
  k_bases_between : PySem.W.keepIn K (.ref a_bases_between) = true
  b_bases_between : Binds K fd_bases_between ps_bases_between []
  a_all_bases : Addr
  fd_all_bases : FuncData
  F_all_bases : FunD K "all_bases" "all_bases" (defArgs s_all_bases) (defBody s_all_bases) (defScope s_all_bases) [] [] a_all_bases fd_all_bases
  g_all_bases : mg "all_bases" = some (.ref a_all_bases)
  k_all_bases : PySem.W.keepIn K (.ref a_all_bases) = true
  b_all_bases : Binds K fd_all_bases ps_all_bases []
  a_tones_of : Addr
  fd_tones_of : FuncData
  F_tones_of : FunD K "tones_of" "tones_of" (defArgs s_tones_of) (defBody s_tones_of) (defScope s_tones_of) [] [] a_tones_of fd_tones_of
  g_tones_of : mg "tones_of" = some (.ref a_tones_of)
  k_tones_of : PySem.W.keepIn K (.ref a_tones_of) = true
  b_tones_of : Binds K fd_tones_of ps_tones_of []
  a_syllable_of : Addr
  fd_syllable_of : FuncData
  F_syllable_of : FunD K "syllable_of" "syllable_of" (defArgs s_syllable_of) (defBody s_syllable_of) (defScope s_syllable_of) [] [] a_syllable_of fd_syllable_of
  g_syllable_of : mg "syllable_of" = some (.ref a_syllable_of)
  k_syllable_of : PySem.W.keepIn K (.ref a_syllable_of) = true
  b_syllable_of : Binds K fd_syllable_of ps_syllable_of []
  a_names_of : Addr
  fd_names_of : FuncData
  F_names_of : FunD K "names_of" "names_of" (defArgs s_names_of) (defBody s_names_of) (defScope s_names_of) [] [] a_names_of fd_names_of
  g_names_of : mg "names_of" = some (.ref a_names_of)
  k_names_of : PySem.W.keepIn K (.ref a_names_of) = true
  b_names_of : Binds K fd_names_of ps_names_of []
  a_is_in_hand : Addr
  fd_is_in_hand : FuncData
  F_is_in_hand : FunD K "is_in_hand" "is_in_hand" (defArgs s_is_in_hand) (defBody s_is_in_hand) (defScope s_is_in_hand) [] [] a_is_in_hand fd_is_in_hand
  g_is_in_hand : mg "is_in_hand" = some (.ref a_is_in_hand)
  k_is_in_hand : PySem.W.keepIn K (.ref a_is_in_hand) = true
  b_is_in_hand : Binds K fd_is_in_hand ps_is_in_hand []
  a_fewest_changes : Addr
  fd_fewest_changes : FuncData
  F_fewest_changes : FunD K "fewest_changes" "fewest_changes" (defArgs s_fewest_changes) (defBody s_fewest_changes) (defScope s_fewest_changes) [] [] a_fewest_changes fd_fewest_changes
  g_fewest_changes : mg "fewest_changes" = some (.ref a_fewest_changes)
  k_fewest_changes : PySem.W.keepIn K (.ref a_fewest_changes) = true
  b_fewest_changes : Binds K fd_fewest_changes ps_fewest_changes []
  a_sung : Addr
  fd_sung : FuncData
  F_sung : FunD K "sung" "sung" (defArgs s_sung) (defBody s_sung) (defScope s_sung) [] [] a_sung fd_sung
  g_sung : mg "sung" = some (.ref a_sung)
  k_sung : PySem.W.keepIn K (.ref a_sung) = true
  b_sung : Binds K fd_sung ps_sung []
  a_changes_at : Addr
  fd_changes_at : FuncData
  F_changes_at : FunD K "changes_at" "changes_at" (defArgs s_changes_at) (defBody s_changes_at) (defScope s_changes_at) [] [] a_changes_at fd_changes_at
  g_changes_at : mg "changes_at" = some (.ref a_changes_at)
  k_changes_at : PySem.W.keepIn K (.ref a_changes_at) = true
  b_changes_at : Binds K fd_changes_at ps_changes_at []
  a_judge_sung : Addr
  fd_judge_sung : FuncData
  F_judge_sung : FunD K "judge_sung" "judge_sung" (defArgs s_judge_sung) (defBody s_judge_sung) (defScope s_judge_sung) [] [] a_judge_sung fd_judge_sung
  g_judge_sung : mg "judge_sung" = some (.ref a_judge_sung)
  k_judge_sung : PySem.W.keepIn K (.ref a_judge_sung) = true
  b_judge_sung : Binds K fd_judge_sung ps_judge_sung []
  a_kind_of : Addr
  fd_kind_of : FuncData
  F_kind_of : FunD K "kind_of" "kind_of" (defArgs s_kind_of) (defBody s_kind_of) (defScope s_kind_of) [] [] a_kind_of fd_kind_of
  g_kind_of : mg "kind_of" = some (.ref a_kind_of)
  k_kind_of : PySem.W.keepIn K (.ref a_kind_of) = true
  b_kind_of : Binds K fd_kind_of ps_kind_of []
  a_shared_by : Addr
  fd_shared_by : FuncData
  F_shared_by : FunD K "shared_by" "shared_by" (defArgs s_shared_by) (defBody s_shared_by) (defScope s_shared_by) [] [] a_shared_by fd_shared_by
  g_shared_by : mg "shared_by" = some (.ref a_shared_by)
  k_shared_by : PySem.W.keepIn K (.ref a_shared_by) = true
  b_shared_by : Binds K fd_shared_by ps_shared_by []
  a_heights_sung : Addr
  fd_heights_sung : FuncData
  F_heights_sung : FunD K "heights_sung" "heights_sung" (defArgs s_heights_sung) (defBody s_heights_sung) (defScope s_heights_sung) [] [] a_heights_sung fd_heights_sung
  g_heights_sung : mg "heights_sung" = some (.ref a_heights_sung)
  k_heights_sung : PySem.W.keepIn K (.ref a_heights_sung) = true
  b_heights_sung : Binds K fd_heights_sung ps_heights_sung []
  a_is_plan : Addr
  fd_is_plan : FuncData
  F_is_plan : FunD K "is_plan" "is_plan" (defArgs s_is_plan) (defBody s_is_plan) (defScope s_is_plan) [] [] a_is_plan fd_is_plan
  g_is_plan : mg "is_plan" = some (.ref a_is_plan)
  k_is_plan : PySem.W.keepIn K (.ref a_is_plan) = true
  b_is_plan : Binds K fd_is_plan ps_is_plan []
  a_length_of : Addr
  fd_length_of : FuncData
  F_length_of : FunD K "length_of" "length_of" (defArgs s_length_of) (defBody s_length_of) (defScope s_length_of) [] [] a_length_of fd_length_of
  g_length_of : mg "length_of" = some (.ref a_length_of)
  k_length_of : PySem.W.keepIn K (.ref a_length_of) = true
  b_length_of : Binds K fd_length_of ps_length_of []
  a_end_from : Addr
  fd_end_from : FuncData
  F_end_from : FunD K "end_from" "end_from" (defArgs s_end_from) (defBody s_end_from) (defScope s_end_from) [] [] a_end_from fd_end_from
  g_end_from : mg "end_from" = some (.ref a_end_from)
  k_end_from : PySem.W.keepIn K (.ref a_end_from) = true
  b_end_from : Binds K fd_end_from ps_end_from []
  a_start_for : Addr
  fd_start_for : FuncData
  F_start_for : FunD K "start_for" "start_for" (defArgs s_start_for) (defBody s_start_for) (defScope s_start_for) [] [] a_start_for fd_start_for
  g_start_for : mg "start_for" = some (.ref a_start_for)
  k_start_for : PySem.W.keepIn K (.ref a_start_for) = true
  b_start_for : Binds K fd_start_for ps_start_for []
  a_cycles_of : Addr
  fd_cycles_of : FuncData
  F_cycles_of : FunD K "cycles_of" "cycles_of" (defArgs s_cycles_of) (defBody s_cycles_of) (defScope s_cycles_of) [] [] a_cycles_of fd_cycles_of
  g_cycles_of : mg "cycles_of" = some (.ref a_cycles_of)
  k_cycles_of : PySem.W.keepIn K (.ref a_cycles_of) = true
  b_cycles_of : Binds K fd_cycles_of ps_cycles_of []
  a_rests_for : Addr
  fd_rests_for : FuncData
  F_rests_for : FunD K "rests_for" "rests_for" (defArgs s_rests_for) (defBody s_rests_for) (defScope s_rests_for) [] [] a_rests_for fd_rests_for
  g_rests_for : mg "rests_for" = some (.ref a_rests_for)
  k_rests_for : PySem.W.keepIn K (.ref a_rests_for) = true
  b_rests_for : Binds K fd_rests_for ps_rests_for []
  a_phrases_for : Addr
  fd_phrases_for : FuncData
  F_phrases_for : FunD K "phrases_for" "phrases_for" (defArgs s_phrases_for) (defBody s_phrases_for) (defScope s_phrases_for) [] [] a_phrases_for fd_phrases_for
  g_phrases_for : mg "phrases_for" = some (.ref a_phrases_for)
  k_phrases_for : PySem.W.keepIn K (.ref a_phrases_for) = true
  b_phrases_for : Binds K fd_phrases_for ps_phrases_for []
  a_plans_filling : Addr
  fd_plans_filling : FuncData
  F_plans_filling : FunD K "plans_filling" "plans_filling" (defArgs s_plans_filling) (defBody s_plans_filling) (defScope s_plans_filling) [] [] a_plans_filling fd_plans_filling
  g_plans_filling : mg "plans_filling" = some (.ref a_plans_filling)
  k_plans_filling : PySem.W.keepIn K (.ref a_plans_filling) = true
  b_plans_filling : Binds K fd_plans_filling ps_plans_filling []
  a_strokes_at : Addr
  fd_strokes_at : FuncData
  F_strokes_at : FunD K "strokes_at" "strokes_at" (defArgs s_strokes_at) (defBody s_strokes_at) (defScope s_strokes_at) [] [] a_strokes_at fd_strokes_at
  g_strokes_at : mg "strokes_at" = some (.ref a_strokes_at)
  k_strokes_at : PySem.W.keepIn K (.ref a_strokes_at) = true
  b_strokes_at : Binds K fd_strokes_at ps_strokes_at []
  a_is_sounding : Addr
  fd_is_sounding : FuncData
  F_is_sounding : FunD K "is_sounding" "is_sounding" (defArgs s_is_sounding) (defBody s_is_sounding) (defScope s_is_sounding) [] [] a_is_sounding fd_is_sounding
  g_is_sounding : mg "is_sounding" = some (.ref a_is_sounding)
  k_is_sounding : PySem.W.keepIn K (.ref a_is_sounding) = true
  b_is_sounding : Binds K fd_is_sounding ps_is_sounding []
  a_row_of : Addr
  fd_row_of : FuncData
  F_row_of : FunD K "row_of" "row_of" (defArgs s_row_of) (defBody s_row_of) (defScope s_row_of) [] [] a_row_of fd_row_of
  g_row_of : mg "row_of" = some (.ref a_row_of)
  k_row_of : PySem.W.keepIn K (.ref a_row_of) = true
  b_row_of : Binds K fd_row_of ps_row_of []
  a_nested : Addr
  fd_nested : FuncData
  F_nested : FunD K "nested" "nested" (defArgs s_nested) (defBody s_nested) (defScope s_nested) [] [] a_nested fd_nested
  g_nested : mg "nested" = some (.ref a_nested)
  k_nested : PySem.W.keepIn K (.ref a_nested) = true
  b_nested : Binds K fd_nested ps_nested []
  a_nested_length : Addr
  fd_nested_length : FuncData
  F_nested_length : FunD K "nested_length" "nested_length" (defArgs s_nested_length) (defBody s_nested_length) (defScope s_nested_length) [] [] a_nested_length fd_nested_length
  g_nested_length : mg "nested_length" = some (.ref a_nested_length)
  k_nested_length : PySem.W.keepIn K (.ref a_nested_length) = true
  b_nested_length : Binds K fd_nested_length ps_nested_length []
  a_plan_of : Addr
  fd_plan_of : FuncData
  F_plan_of : FunD K "plan_of" "plan_of" (defArgs s_plan_of) (defBody s_plan_of) (defScope s_plan_of) [] [] a_plan_of fd_plan_of
  g_plan_of : mg "plan_of" = some (.ref a_plan_of)
  k_plan_of : PySem.W.keepIn K (.ref a_plan_of) = true
  b_plan_of : Binds K fd_plan_of ps_plan_of []
  a_shrinking : Addr
  fd_shrinking : FuncData
  F_shrinking : FunD K "shrinking" "shrinking" (defArgs s_shrinking) (defBody s_shrinking) (defScope s_shrinking) [] [] a_shrinking fd_shrinking
  g_shrinking : mg "shrinking" = some (.ref a_shrinking)
  k_shrinking : PySem.W.keepIn K (.ref a_shrinking) = true
  b_shrinking : Binds K fd_shrinking ps_shrinking []
  a_first_rest : Addr
  fd_first_rest : FuncData
  F_first_rest : FunD K "first_rest" "first_rest" (defArgs s_first_rest) (defBody s_first_rest) (defScope s_first_rest) [] [] a_first_rest fd_first_rest
  g_first_rest : mg "first_rest" = some (.ref a_first_rest)
  k_first_rest : PySem.W.keepIn K (.ref a_first_rest) = true
  b_first_rest : Binds K fd_first_rest ps_first_rest []
  a__law_draw : Addr
  fd__law_draw : FuncData
  F__law_draw : FunD K "_law_draw" "_law_draw" (defArgs s__law_draw) (defBody s__law_draw) (defScope s__law_draw) [] [] a__law_draw fd__law_draw
  g__law_draw : mg "_law_draw" = some (.ref a__law_draw)
  k__law_draw : PySem.W.keepIn K (.ref a__law_draw) = true
  b__law_draw : Binds K fd__law_draw ps__law_draw []
  a__law_same : Addr
  fd__law_same : FuncData
  F__law_same : FunD K "_law_same" "_law_same" (defArgs s__law_same) (defBody s__law_same) (defScope s__law_same) [] [] a__law_same fd__law_same
  g__law_same : mg "_law_same" = some (.ref a__law_same)
  k__law_same : PySem.W.keepIn K (.ref a__law_same) = true
  b__law_same : Binds K fd__law_same ps__law_same []
  a__law_melody : Addr
  fd__law_melody : FuncData
  F__law_melody : FunD K "_law_melody" "_law_melody" (defArgs s__law_melody) (defBody s__law_melody) (defScope s__law_melody) [] [] a__law_melody fd__law_melody
  g__law_melody : mg "_law_melody" = some (.ref a__law_melody)
  k__law_melody : PySem.W.keepIn K (.ref a__law_melody) = true
  b__law_melody : Binds K fd__law_melody ps__law_melody []
  a__law_sung : Addr
  fd__law_sung : FuncData
  F__law_sung : FunD K "_law_sung" "_law_sung" (defArgs s__law_sung) (defBody s__law_sung) (defScope s__law_sung) [] [] a__law_sung fd__law_sung
  g__law_sung : mg "_law_sung" = some (.ref a__law_sung)
  k__law_sung : PySem.W.keepIn K (.ref a__law_sung) = true
  b__law_sung : Binds K fd__law_sung ps__law_sung []
  a__law_hand : Addr
  fd__law_hand : FuncData
  F__law_hand : FunD K "_law_hand" "_law_hand" (defArgs s__law_hand) (defBody s__law_hand) (defScope s__law_hand) [] [] a__law_hand fd__law_hand
  g__law_hand : mg "_law_hand" = some (.ref a__law_hand)
  k__law_hand : PySem.W.keepIn K (.ref a__law_hand) = true
  b__law_hand : Binds K fd__law_hand ps__law_hand []
  a__law_sounding : Addr
  fd__law_sounding : FuncData
  F__law_sounding : FunD K "_law_sounding" "_law_sounding" (defArgs s__law_sounding) (defBody s__law_sounding) (defScope s__law_sounding) [] [] a__law_sounding fd__law_sounding
  g__law_sounding : mg "_law_sounding" = some (.ref a__law_sounding)
  k__law_sounding : PySem.W.keepIn K (.ref a__law_sounding) = true
  b__law_sounding : Binds K fd__law_sounding ps__law_sounding []
  a__law_planned : Addr
  fd__law_planned : FuncData
  F__law_planned : FunD K "_law_planned" "_law_planned" (defArgs s__law_planned) (defBody s__law_planned) (defScope s__law_planned) [] [] a__law_planned fd__law_planned
  g__law_planned : mg "_law_planned" = some (.ref a__law_planned)
  k__law_planned : PySem.W.keepIn K (.ref a__law_planned) = true
  b__law_planned : Binds K fd__law_planned ps__law_planned []
  a_law : Addr
  fd_law : FuncData
  F_law : FunD K "law" "law" (defArgs s_law) (defBody s_law) (defScope s_law) [] [] a_law fd_law
  g_law : mg "law" = some (.ref a_law)
  k_law : PySem.W.keepIn K (.ref a_law) = true
  b_law : Binds K fd_law ps_law []
  c_SYLLABLES : GC K mg "SYLLABLES" (.tuple [.str "ut", .str "re", .str "mi", .str "fa", .str "sol", .str "la"])
  t_SYLLABLES : GT K mg "SYLLABLES" [.str "ut", .str "re", .str "mi", .str "fa", .str "sol", .str "la"]
  c_HEIGHTS : GC K mg "HEIGHTS" (.tuple [.int 0, .int 2, .int 4, .int 5, .int 7, .int 9])
  t_HEIGHTS : GT K mg "HEIGHTS" [.int 0, .int 2, .int 4, .int 5, .int 7, .int 9]
  c_BASES : GC K mg "BASES" (.tuple [.int 0, .int 5, .int 7])
  t_BASES : GT K mg "BASES" [.int 0, .int 5, .int 7]
  c_LOWEST : GC K mg "LOWEST" (.int (-5))
  c_HIGHEST : GC K mg "HIGHEST" (.int 16)
  c_MOST_TIMES : GC K mg "MOST_TIMES" (.int 9)
  n_any : mg "any" = none
  n_bool : mg "bool" = none
  n_enumerate : mg "enumerate" = none
  n_int : mg "int" = none
  n_isinstance : mg "isinstance" = none
  n_len : mg "len" = none
  n_list : mg "list" = none
  n_min : mg "min" = none
  n_range : mg "range" = none
  n_sum : mg "sum" = none
  n_tuple : mg "tuple" = none
  n_zip : mg "zip" = none
  xa_NoSuch : Addr
  g_NoSuch : mg "NoSuch" = some (.ref xa_NoSuch)
  x_NoSuch : PySem.W.excIn K xa_NoSuch He.veBase "ValueError.__new__" = true ∧ PySem.W.keepIn K (.ref xa_NoSuch) = true ∧ PySem.W.subIn K (.ref xa_NoSuch) (.type "BaseException") = some true ∧ PySem.W.typeIn K (.ref xa_NoSuch) = some (.type "type")
  e_NoSuch_NoSuch : PySem.W.exmOne K (.ref xa_NoSuch) (.ref xa_NoSuch) = some true
section
variable {K : PySem.W.Frag} {mg : Str → Option Value}
def Top.cls (T : Top K mg) (x : String) : Value := if x = "NoSuch" then .ref T.xa_NoSuch else .none
def hx_NoSuch (y : String) : Option Bool := if y = "NoSuch" then some true else none
theorem Top.m_NoSuch (T : Top K mg) {cls : String → Value} (hcls : ∀ x v, T.cls x = v → cls x = v) : ∀ y b, hx_NoSuch y = some b → PySem.W.exmOne K (cls y) (.ref T.xa_NoSuch) = some b := by
  intro y b h
  rw [hcls y _ rfl]
  unfold hx_NoSuch at h
  unfold Top.cls
  by_cases e_NoSuch : y = "NoSuch"
  · rw [if_pos e_NoSuch] at h
    rw [if_pos e_NoSuch]
    cases h
    exact T.e_NoSuch_NoSuch
  rw [if_neg e_NoSuch] at h
  cases h
end
/-! ### mirrors -/
def m_is_integer : MS := sSeq (sIf (mOrT (mNotT (mTru (mOp1 (gIsi "int") (mVar 0)))) (mTru (mOp1 (gIsi "bool") (mVar 0)))) (sRet (mConst (.bool false))) (sNext))
  (sRet (mAnd (mOr (mOp2 gIs (mVar 1) (mConst .none)) (mOp2 gGe (mVar 0) (mVar 1))) (mOr (mOp2 gIs (mVar 2) (mConst .none)) (mOp2 gLe (mVar 0) (mVar 2)))))
def f_is_integer : Fn := fnM 3 3 m_is_integer
def m_bases_between : MS := sRet (mNew (mLc [2] (mItN itR2 (mCons (mVar 0) (mCons (mOp2 gAdd (mVar 1) (mConst (.int 1))) (mNil)))) (gN 2) (mB (mOp2 gInA (mOp2 gMod (mVar 2) (mConst (.int 12))) (mConst (.tuple [.int 0, .int 5, .int 7])))) (mVar 2)))
def f_bases_between : Fn := fnM 3 2 m_bases_between
def m_all_bases : MS := sRet (mNew (mLc [0] (mIt itA (mCall f_bases_between 2 (mCons (mConst (.int (-5))) (mCons (mOp2 gAdd (mOp2 gSub (mConst (.int 16)) (mConst (.int 9))) (mConst (.int 4))) (mNil))))) (gN 0) (mB (mOp2 gLe (mOp2 gAdd (mVar 0) (mConst (.int 9))) (mConst (.int 16)))) (mVar 0)))
def f_all_bases : Fn := fnM 1 0 m_all_bases
def m_tones_of : MS := sRet (mOpN gTuple (mCons (mNew (mLc [1] (mIt itA (mConst (.tuple [.int 0, .int 2, .int 4, .int 5, .int 7, .int 9]))) (gN 1) (mYes) (mOp2 gAdd (mVar 0) (mVar 1)))) (mNil)))
def f_tones_of : Fn := fnM 2 1 m_tones_of
def m_syllable_of : MS := sSeq (sAsg (mOp2 gSub (mVar 1) (mVar 0)) (gN 2))
  (sRet (mIf (mB (mOp2 gInA (mVar 2) (mConst (.tuple [.int 0, .int 2, .int 4, .int 5, .int 7, .int 9])))) (mOp2 gIxA (mConst (.tuple [.str "ut", .str "re", .str "mi", .str "fa", .str "sol", .str "la"])) (mOpN (gIndex [.int 0, .int 2, .int 4, .int 5, .int 7, .int 9]) (mCons (mVar 2) (mNil)))) (mConst .none)))
def f_syllable_of : Fn := fnM 3 2 m_syllable_of
def m_names_of : MS := sRet (mNew (mLc [1] (mIt itA (mCall f_all_bases 0 mNil)) (gN 1) (mB (mOp2 gIsNot (mCall f_syllable_of 2 (mCons (mVar 1) (mCons (mVar 0) (mNil)))) (mConst .none))) (mTup (mCons (mVar 1) (mCons (mCall f_syllable_of 2 (mCons (mVar 1) (mCons (mVar 0) (mNil)))) (mNil))))))
def f_names_of : Fn := fnM 2 1 m_names_of
def m_is_in_hand : MS := sRet (mOp2 gGt (mOpN gLen (mCons (mCall f_names_of 1 (mCons (mVar 0) (mNil))) (mNil))) (mConst (.int 0)))
def f_is_in_hand : Fn := fnM 1 1 m_is_in_hand
def m_fewest_changes : MS := sSeq (sIf (mNotT (mTru (mVar 0))) (sRet (mTup (mCons (mConst (.int 0)) (mCons (mTup (mNil)) (mNil))))) (sNext))
  (sSeq (sSetB 1 (mDc [4, 5] (mIt itA (mCall f_names_of 1 (mCons (mOp2 gIxA (mVar 0) (mConst (.int 0))) (mNil)))) (gT 2 (gsC (gN 4) (gsC (gN 5) (gsN)))) (mYes) (mVar 4) (mTup (mCons (mConst (.int 0)) (mCons (mTup (mCons (mVar 4) (mNil))) (mNil))))))
  (sSeq (sFor (mIt itA (mSl gSl (mVar 0) (moS (mConst (.int 1))) (moN))) (gN 2) (sSeq (sSetB 3 (mPure (.dk [])))
  (sSeq (sFor (mIt itA (mCall f_names_of 1 (mCons (mVar 2) (mNil)))) (gT 2 (gsC (gN 4) (gsC (gN 5) (gsN)))) (sSeq (sAsg (mNew (mLc [7] (mIt itA (mVar 1)) (gN 7) (mYes) (mTup (mCons (mOp2 gAdd (mOp2 gIxA (mOp2 gIxA (mVar 1) (mVar 7)) (mConst (.int 0))) (mOpN gInt (mCons (mOp2 gNe (mVar 7) (mVar 4)) (mNil)))) (mCons (mOp2 gAdd (mOp2 gIxA (mOp2 gIxA (mVar 1) (mVar 7)) (mConst (.int 1))) (mTup (mCons (mVar 4) (mNil)))) (mNil)))))) (gN 6))
  (sIf (mTru (mVar 6)) (sSetI "dict" 3 gSetA (mVar 4) (mOpN gMin (mCons (mVar 6) (mNil)))) (sNext))))
  (sAsg (mVar 3) (gN 1)))))
  (sRet (mIf (mTru (mVar 1)) (mOpN gMin (mCons (mNew (mLc [4] (mIt itA (mVar 1)) (gN 4) (mYes) (mOp2 gIxA (mVar 1) (mVar 4)))) (mNil))) (mConst .none)))))
def f_fewest_changes : Fn := fnM 8 1 m_fewest_changes
def m_sung : MS := sSeq (sAsg (mCall f_fewest_changes 1 (mCons (mVar 0) (mNil))) (gN 1))
  (sSeq (sIf (mB (mOp2 gIs (mVar 1) (mConst .none))) (sRet (mConst .none)) (sNext))
  (sRet (mOpN gTuple (mCons (mNew (mLc [2, 3] (mItN itZ (mCons (mOp2 gIxA (mVar 1) (mConst (.int 1))) (mCons (mVar 0) (mNil)))) (gT 2 (gsC (gN 2) (gsC (gN 3) (gsN)))) (mYes) (mCall f_syllable_of 2 (mCons (mVar 2) (mCons (mVar 3) (mNil)))))) (mNil)))))
def f_sung : Fn := fnM 4 1 m_sung
def m_changes_at : MS := sRet (mOpN gTuple (mCons (mNew (mLc [1] (mItN itR2 (mCons (mConst (.int 1)) (mCons (mOpN gLen (mCons (mVar 0) (mNil))) (mNil)))) (gN 1) (mB (mOp2 gNe (mOp2 gIxA (mVar 0) (mVar 1)) (mOp2 gIxA (mVar 0) (mOp2 gSub (mVar 1) (mConst (.int 1)))))) (mVar 1))) (mNil)))
def f_changes_at : Fn := fnM 2 1 m_changes_at
def m_judge_sung : MS := sSeq (sIf (mNotT (mTru (mOp1 (gIsi "tuple") (mVar 1)))) (sRet (mConst (.int 0))) (sNext))
  (sSeq (sIf (mB (mOp2 gNe (mOpN gLen (mCons (mVar 1) (mNil))) (mOpN gLen (mCons (mVar 0) (mNil))))) (sRet (mOpN gMin (mCons (mOpN gLen (mCons (mVar 1) (mNil))) (mCons (mOpN gLen (mCons (mVar 0) (mNil))) (mNil))))) (sNext))
  (sSeq (sFor (mItN itEZ (mCons (mVar 1) (mCons (mVar 0) (mNil)))) (gT 2 (gsC (gN 2) (gsC (gT 2 (gsC (gN 3) (gsC (gN 4) (gsN)))) (gsN)))) (sIf (mOrT (mB (mOp2 gNotInA (mVar 3) (mCall f_all_bases 0 mNil))) (mB (mOp2 gIs (mCall f_syllable_of 2 (mCons (mVar 3) (mCons (mVar 4) (mNil)))) (mConst .none)))) (sRet (mVar 2)) (sNext)))
  (sRet (mConst .none))))
def f_judge_sung : Fn := fnM 5 2 m_judge_sung
def m_kind_of : MS := sRet (mOp2 gIxA (mNewB (mDisp [(mConst (.int 0), mConst (.str "natural")), (mConst (.int 5), mConst (.str "soft")), (mConst (.int 7), mConst (.str "hard"))])) (mOp2 gMod (mVar 0) (mConst (.int 12))))
def f_kind_of : Fn := fnM 1 1 m_kind_of
def m_shared_by : MS := sRet (mOpN gTuple (mCons (mNew (mLc [2] (mIt itA (mCall f_tones_of 1 (mCons (mVar 0) (mNil)))) (gN 2) (mB (mOp2 gInA (mVar 2) (mCall f_tones_of 1 (mCons (mVar 1) (mNil))))) (mVar 2))) (mNil)))
def f_shared_by : Fn := fnM 3 2 m_shared_by
def m_heights_sung : MS := sSeq (sSetN 2 (mLst (mNil)))
  (sSeq (sFor (mIt itA (mVar 1)) (gN 3) (sSeq (sIf (mB (mOp2 gNotInA (mVar 3) (mConst (.tuple [.str "ut", .str "re", .str "mi", .str "fa", .str "sol", .str "la"])))) (sRet (mConst .none)) (sNext))
  (sExpr (mMeth "list" 2 gAppend (mCons (mOp2 gAdd (mVar 0) (mOp2 gIxA (mConst (.tuple [.int 0, .int 2, .int 4, .int 5, .int 7, .int 9])) (mOpN (gIndex [.str "ut", .str "re", .str "mi", .str "fa", .str "sol", .str "la"]) (mCons (mVar 3) (mNil))))) (mNil))))))
  (sRet (mOpN gTuple (mCons (mVar 2) (mNil)))))
def f_heights_sung : Fn := fnM 4 2 m_heights_sung
def m_is_plan : MS := sRet (mAnd (mOp1 (gIsi "tuple") (mVar 0)) (mAnd (mOp2 gEq (mOpN gLen (mCons (mVar 0) (mNil))) (mConst (.int 3))) (mAnd (mCall f_is_integer 3 (mCons (mOp2 gIxA (mVar 0) (mConst (.int 0))) (mCons (mConst (.int 1)) (mCons (mConst (.int 1000)) (mNil))))) (mAnd (mCall f_is_integer 3 (mCons (mOp2 gIxA (mVar 0) (mConst (.int 1))) (mCons (mConst (.int 0)) (mCons (mConst (.int 1000)) (mNil))))) (mCall f_is_integer 3 (mCons (mOp2 gIxA (mVar 0) (mConst (.int 2))) (mCons (mConst (.int 2)) (mCons (mConst (.int 9)) (mNil)))))))))
def f_is_plan : Fn := fnM 1 1 m_is_plan
def m_length_of : MS := sSeq (sAsg (mVar 0) (gT 3 (gsC (gN 1) (gsC (gN 2) (gsC (gN 3) (gsN))))))
  (sRet (mOp2 gAdd (mOp2 gMul (mVar 1) (mVar 3)) (mOp2 gMul (mVar 2) (mOp2 gSub (mVar 3) (mConst (.int 1))))))
def f_length_of : Fn := fnM 4 1 m_length_of
def m_end_from : MS := sRet (mOp2 gMod (mOp2 gSub (mOp2 gAdd (mVar 2) (mCall f_length_of 1 (mCons (mVar 0) (mNil)))) (mConst (.int 1))) (mVar 1))
def f_end_from : Fn := fnM 3 3 m_end_from
def m_start_for : MS := sRet (mOp2 gMod (mOp2 gSub (mConst (.int 1)) (mCall f_length_of 1 (mCons (mVar 0) (mNil)))) (mVar 1))
def f_start_for : Fn := fnM 2 2 m_start_for
def m_cycles_of : MS := sRet (mOp2 gFdiv (mOp2 gSub (mOp2 gAdd (mOp2 gSub (mCall f_length_of 1 (mCons (mVar 0) (mNil))) (mConst (.int 1))) (mVar 1)) (mConst (.int 1))) (mVar 1))
def f_cycles_of : Fn := fnM 2 2 m_cycles_of
def m_rests_for : MS := sRet (mNew (mLc [5] (mItN itR1 (mCons (mOp2 gAdd (mVar 4) (mConst (.int 1))) (mNil))) (gN 5) (mB (mOp2 gEq (mCall f_end_from 3 (mCons (mTup (mCons (mVar 0) (mCons (mVar 5) (mCons (mVar 1) (mNil))))) (mCons (mVar 2) (mCons (mVar 3) (mNil))))) (mConst (.int 0)))) (mVar 5)))
def f_rests_for : Fn := fnM 6 5 m_rests_for
def m_phrases_for : MS := sRet (mNew (mLc [5] (mItN itR2 (mCons (mConst (.int 1)) (mCons (mOp2 gAdd (mVar 4) (mConst (.int 1))) (mNil)))) (gN 5) (mB (mOp2 gEq (mCall f_end_from 3 (mCons (mTup (mCons (mVar 5) (mCons (mVar 0) (mCons (mVar 1) (mNil))))) (mCons (mVar 2) (mCons (mVar 3) (mNil))))) (mConst (.int 0)))) (mVar 5)))
def f_phrases_for : Fn := fnM 6 5 m_phrases_for
def m_plans_filling : MS := sSeq (sAsg (mOp2 gAdd (mOp2 gMul (mVar 1) (mVar 2)) (mConst (.int 1))) (gN 3))
  (sSeq (sSetN 4 (mLst (mNil)))
  (sSeq (sFor (mItN itR2 (mCons (mConst (.int 1)) (mCons (mOp2 gAdd (mOp2 gFdiv (mVar 3) (mVar 0)) (mConst (.int 1))) (mNil)))) (gN 5) (sSeq (sAsg (mOp2 gSub (mVar 3) (mOp2 gMul (mVar 5) (mVar 0))) (gN 6))
  (sIf (mB (mOp2 gEq (mOp2 gMod (mVar 6) (mOp2 gSub (mVar 0) (mConst (.int 1)))) (mConst (.int 0)))) (sExpr (mMeth "list" 4 gAppend (mCons (mTup (mCons (mVar 5) (mCons (mOp2 gFdiv (mVar 6) (mOp2 gSub (mVar 0) (mConst (.int 1)))) (mCons (mVar 0) (mNil))))) (mNil)))) (sNext))))
  (sRet (mVar 4))))
def f_plans_filling : Fn := fnM 7 3 m_plans_filling
def m_strokes_at : MS := sSeq (sAsg (mVar 0) (gT 3 (gsC (gN 3) (gsC (gN 4) (gsC (gN 5) (gsN))))))
  (sRet (mOpN gTuple (mCons (mNew (mLc [6] (mItN itR1 (mCons (mVar 5) (mNil))) (gN 6) (mYes) (mOp2 gMod (mOp2 gAdd (mVar 2) (mOp2 gMul (mVar 6) (mOp2 gAdd (mVar 3) (mVar 4)))) (mVar 1)))) (mNil))))
def f_strokes_at : Fn := fnM 7 3 m_strokes_at
def m_is_sounding : MS := sSeq (sIf (mNotT (mB (mChain gLe gLt (mConst (.int 0)) (mVar 1) (mCall f_length_of 1 (mCons (mVar 0) (mNil)))))) (sRaise "NoSuch") (sNext))
  (sRet (mOp2 gLt (mOp2 gMod (mVar 1) (mOp2 gAdd (mOp2 gIxA (mVar 0) (mConst (.int 0))) (mOp2 gIxA (mVar 0) (mConst (.int 1))))) (mOp2 gIxA (mVar 0) (mConst (.int 0)))))
def f_is_sounding : Fn := fnM 2 2 m_is_sounding
def m_row_of : MS := sRet (mOpN gTuple (mCons (mNew (mLc [1] (mItN itR1 (mCons (mCall f_length_of 1 (mCons (mVar 0) (mNil))) (mNil))) (gN 1) (mYes) (mOpN gInt (mCons (mCall f_is_sounding 2 (mCons (mVar 0) (mCons (mVar 1) (mNil)))) (mNil))))) (mNil)))
def f_row_of : Fn := fnM 2 1 m_row_of
def m_nested : MS := sSeq (sAsg (mCall f_row_of 1 (mCons (mVar 0) (mNil))) (gN 3))
  (sSeq (sAsg (mTup (mNil)) (gN 4))
  (sSeq (sFor (mItN itR1 (mCons (mVar 2) (mNil))) (gN 5) (sAsg (mOp2 gAdd (mOp2 gAdd (mVar 4) (mVar 3)) (mIf (mB (mOp2 gLt (mVar 5) (mOp2 gSub (mVar 2) (mConst (.int 1))))) (mOp2 gMul (mTup (mCons (mConst (.int 0)) (mNil))) (mVar 1)) (mTup (mNil)))) (gN 4)))
  (sRet (mVar 4))))
def f_nested : Fn := fnM 6 3 m_nested
def m_nested_length : MS := sRet (mOp2 gAdd (mOp2 gMul (mCall f_length_of 1 (mCons (mVar 0) (mNil))) (mVar 2)) (mOp2 gMul (mVar 1) (mOp2 gSub (mVar 2) (mConst (.int 1)))))
def f_nested_length : Fn := fnM 3 3 m_nested_length
def m_plan_of : MS := sSeq (sAsg (mOpN gLen (mCons (mVar 0) (mNil))) (gN 2))
  (sSeq (sFor (mItN itR2 (mCons (mConst (.int 1)) (mCons (mOp2 gAdd (mOp2 gFdiv (mVar 2) (mVar 1)) (mConst (.int 1))) (mNil)))) (gN 3) (sSeq (sAsg (mOp2 gSub (mVar 2) (mOp2 gMul (mVar 3) (mVar 1))) (gN 4))
  (sIf (mAndT (mB (mOp2 gEq (mOp2 gMod (mVar 4) (mOp2 gSub (mVar 1) (mConst (.int 1)))) (mConst (.int 0)))) (mB (mOp2 gEq (mCall f_row_of 1 (mCons (mTup (mCons (mVar 3) (mCons (mOp2 gFdiv (mVar 4) (mOp2 gSub (mVar 1) (mConst (.int 1)))) (mCons (mVar 1) (mNil))))) (mNil))) (mOpN gTuple (mCons (mVar 0) (mNil)))))) (sRet (mTup (mCons (mVar 3) (mCons (mOp2 gFdiv (mVar 4) (mOp2 gSub (mVar 1) (mConst (.int 1)))) (mCons (mVar 1) (mNil)))))) (sNext))))
  (sRet (mConst .none)))
def f_plan_of : Fn := fnM 5 2 m_plan_of
def fuel_shrinking : Nat := 100000
def m_shrinking : MS := sSeq (sSetN 4 (mLst (mNil)))
  (sSeq (sAsg (mVar 0) (gN 5))
  (sSeq (sWhile (mB (mOp2 gGt (mVar 5) (mConst (.int 0)))) (sSeq (sExpr (mMeth "list" 4 gAppend (mCons (mVar 5) (mNil))))
  (sAug 5 gSub (mVar 1))) fuel_shrinking)
  (sSeq (sAsg (mOp2 gAdd (mOpN gSum (mCons (mVar 4) (mNil))) (mOp2 gMul (mVar 2) (mOp2 gSub (mOpN gLen (mCons (mVar 4) (mNil))) (mConst (.int 1))))) (gN 6))
  (sRet (mTup (mCons (mOpN gTuple (mCons (mVar 4) (mNil))) (mCons (mOp2 gMod (mOp2 gSub (mConst (.int 1)) (mVar 6)) (mVar 3)) (mNil))))))))
def f_shrinking : Fn := fnM 7 4 m_shrinking
def m_first_rest : MS := sSeq (sAsg (mCall f_rests_for 5 (mCons (mVar 0) (mCons (mVar 1) (mCons (mVar 2) (mCons (mVar 3) (mCons (mVar 2) (mNil))))))) (gN 4))
  (sRet (mIf (mTru (mVar 4)) (mOp2 gIxA (mVar 4) (mConst (.int 0))) (mConst .none)))
def f_first_rest : Fn := fnM 5 4 m_first_rest
def m__law_draw : MS := sSeq (sIf (mB (mOp2 gLt (mOp2 gIxA (mVar 0) (mConst (.int 0))) (mVar 1))) (sSeq (sAsg (mOp2 gIxA (mVar 0) (mConst (.int 1))) (gN 2))
  (sSeq (sSetI "list" 0 gSetA (mConst (.int 1)) (mOp2 gAdd (mVar 2) (mConst (.int 1))))
  (sSeq (sAsg (mConst (.int 0)) (gN 3))
  (sSeq (sIf (mB (mOp2 gLt (mVar 2) (mOpN gLen (mCons (mOp2 gIxA (mVar 0) (mConst (.int 2))) (mNil))))) (sAsg (mOp2 gIxA (mOp2 gIxA (mVar 0) (mConst (.int 2))) (mVar 2)) (gN 3)) (sNext))
  (sIf (mB (mOp2 gGe (mVar 3) (mOp2 gPow (mConst (.int 10)) (mConst (.int 18))))) (sSetI "list" 0 gSetA (mConst (.int 0)) (mVar 3)) (sSeq (sSetI "list" 0 gSetA (mConst (.int 3)) (mOp2 gMod (mOpN gInt (mCons (mOp2 gMul (mOp2 gAdd (mOp2 gAdd (mOp2 gAdd (mOp2 gIxA (mVar 0) (mConst (.int 3))) (mOp2 gMod (mOpN gInt (mCons (mVar 3) (mNil))) (mConst (.int 2147483629)))) (mVar 2)) (mConst (.int 1))) (mConst (.int 48271))) (mNil))) (mConst (.int 2147483647))))
  (sSeq (sAsg (mOp2 gMod (mOpN gInt (mCons (mOp2 gAdd (mOp2 gMul (mOp2 gIxA (mVar 0) (mConst (.int 3))) (mConst (.int 69621))) (mConst (.int 11))) (mNil))) (mConst (.int 2147483629))) (gN 4))
  (sSetI "list" 0 gSetA (mConst (.int 0)) (mOp2 gAdd (mOp2 gMul (mVar 4) (mConst (.int 2147483647))) (mOp2 gMod (mOpN gInt (mCons (mOp2 gAdd (mOp2 gMul (mVar 4) (mConst (.int 30011))) (mOp2 gIxA (mVar 0) (mConst (.int 3)))) (mNil))) (mConst (.int 2147483587)))))))))))) (sNext))
  (sSeq (sAsg (mOp2 gMod (mOpN gInt (mCons (mOp2 gIxA (mVar 0) (mConst (.int 0))) (mNil))) (mVar 1)) (gN 5))
  (sSeq (sSetI "list" 0 gSetA (mConst (.int 0)) (mOp2 gFdiv (mOp2 gIxA (mVar 0) (mConst (.int 0))) (mVar 1)))
  (sRet (mVar 5))))
def f__law_draw : Fn := fnM 6 2 m__law_draw
def m__law_same : MS := sRet (mAnd (mOp2 gEq (mOp2 gIs (mVar 0) (mConst (.bool true))) (mVar 1)) (mOp2 gNe (mOp2 gIs (mVar 0) (mConst (.bool false))) (mVar 1)))
def f__law_same : Fn := fnM 2 2 m__law_same
def m__law_melody : MS := sSeq (sSetN 1 (mLst (mNil)))
  (sSeq (sFor (mItN itR1 (mCons (mCall f__law_draw 2 (mCons (mVar 0) (mCons (mConst (.int 9)) (mNil)))) (mNil))) (gN 2) (sSeq (sAsg (mOp2 gIxA (mCall f_all_bases 0 mNil) (mCall f__law_draw 2 (mCons (mVar 0) (mCons (mOpN gLen (mCons (mCall f_all_bases 0 mNil) (mNil))) (mNil))))) (gN 3))
  (sExpr (mMeth "list" 1 gAppend (mCons (mIf (mB (mOp2 gGt (mCall f__law_draw 2 (mCons (mVar 0) (mCons (mConst (.int 9)) (mNil)))) (mConst (.int 0)))) (mOp2 gAdd (mVar 3) (mOp2 gIxA (mNew (mLst (mCons (mConst (.int 0)) (mCons (mConst (.int 2)) (mCons (mConst (.int 4)) (mCons (mConst (.int 5)) (mCons (mConst (.int 7)) (mCons (mConst (.int 9)) (mNil))))))))) (mCall f__law_draw 2 (mCons (mVar 0) (mCons (mConst (.int 6)) (mNil)))))) (mOp2 gSub (mCall f__law_draw 2 (mCons (mVar 0) (mCons (mConst (.int 30)) (mNil)))) (mConst (.int 8)))) (mNil))))))
  (sRet (mOpN gTuple (mCons (mVar 1) (mNil)))))
def f__law_melody : Fn := fnM 4 1 m__law_melody
def m__law_sung : MS := sSeq (sAsg (mCall f_fewest_changes 1 (mCons (mVar 1) (mNil))) (gN 2))
  (sSeq (sIf (mOrT (mB (mOp2 gNe (mOp2 gIs (mVar 2) (mConst .none)) (mOpN gAny (mCons (mNew (mLc [7] (mIt itA (mVar 1)) (gN 7) (mYes) (mOp2 gIsNot (mCall f_is_in_hand 1 (mCons (mVar 7) (mNil))) (mConst (.bool true))))) (mNil))))) (mB (mOp2 gNe (mOp2 gIs (mCall f_sung 1 (mCons (mVar 1) (mNil))) (mConst .none)) (mOp2 gIs (mVar 2) (mConst .none))))) (sRet (mConst (.bool false))) (sNext))
  (sSeq (sIf (mB (mOp2 gIs (mVar 2) (mConst .none))) (sRet (mConst (.bool true))) (sNext))
  (sSeq (sAsg (mVar 2) (gT 2 (gsC (gN 3) (gsC (gN 4) (gsN)))))
  (sSeq (sIf (mOrT (mB (mOp2 gIsNot (mCall f_judge_sung 2 (mCons (mVar 1) (mCons (mVar 4) (mNil)))) (mConst .none))) (mOrT (mB (mOp2 gNe (mOpN gLen (mCons (mCall f_changes_at 1 (mCons (mVar 4) (mNil))) (mNil))) (mVar 3))) (mB (mOp2 gNe (mCall f_sung 1 (mCons (mVar 1) (mNil))) (mOpN gTuple (mCons (mNew (mLc [5] (mItN itR1 (mCons (mOpN gLen (mCons (mVar 1) (mNil))) (mNil))) (gN 5) (mYes) (mCall f_syllable_of 2 (mCons (mOp2 gIxA (mVar 4) (mVar 5)) (mCons (mOp2 gIxA (mVar 1) (mVar 5)) (mNil)))))) (mNil))))))) (sRet (mConst (.bool false))) (sNext))
  (sSeq (sFor (mItN itR1 (mCons (mConst (.int 6)) (mNil))) (gN 5) (sSeq (sAsg (mTup (mNil)) (gN 6))
  (sSeq (sFor (mIt itA (mVar 1)) (gN 7) (sSeq (sAsg (mCall f_names_of 1 (mCons (mVar 7) (mNil))) (gN 8))
  (sAsg (mOp2 gAdd (mVar 6) (mTup (mCons (mOp2 gIxA (mOp2 gIxA (mVar 8) (mCall f__law_draw 2 (mCons (mVar 0) (mCons (mOpN gLen (mCons (mVar 8) (mNil))) (mNil))))) (mConst (.int 0))) (mNil)))) (gN 6))))
  (sIf (mOrT (mB (mOp2 gIsNot (mCall f_judge_sung 2 (mCons (mVar 1) (mCons (mVar 6) (mNil)))) (mConst .none))) (mOrT (mB (mOp2 gLt (mOpN gLen (mCons (mCall f_changes_at 1 (mCons (mVar 6) (mNil))) (mNil))) (mVar 3))) (mAndT (mB (mOp2 gEq (mOpN gLen (mCons (mCall f_changes_at 1 (mCons (mVar 6) (mNil))) (mNil))) (mVar 3))) (mB (mOp2 gLt (mVar 6) (mVar 4)))))) (sRet (mConst (.bool false))) (sNext)))))
  (sSeq (sIf (mOrT (mB (mOp2 gNe (mCall f_judge_sung 2 (mCons (mVar 1) (mCons (mNew (mOpL gList (mCons (mVar 4) (mNil)))) (mNil)))) (mConst (.int 0)))) (mOrT (mB (mOp2 gNe (mCall f_judge_sung 2 (mCons (mVar 1) (mCons (mOp2 gAdd (mVar 4) (mTup (mCons (mConst (.int 0)) (mNil)))) (mNil)))) (mOpN gLen (mCons (mVar 1) (mNil))))) (mAndT (mB (mOp2 gGt (mOpN gLen (mCons (mVar 4) (mNil))) (mConst (.int 0)))) (mB (mOp2 gNe (mCall f_judge_sung 2 (mCons (mVar 1) (mCons (mSl gSl (mVar 4) (moS (mConst (.int 1))) (moN)) (mNil)))) (mOp2 gSub (mOpN gLen (mCons (mVar 1) (mNil))) (mConst (.int 1)))))))) (sRet (mConst (.bool false))) (sNext))
  (sSeq (sIf (mB (mOp2 gGt (mOpN gLen (mCons (mVar 4) (mNil))) (mConst (.int 0)))) (sSeq (sAsg (mCall f__law_draw 2 (mCons (mVar 0) (mCons (mOpN gLen (mCons (mVar 4) (mNil))) (mNil)))) (gN 9))
  (sSeq (sAsg (mOp2 gAdd (mOp2 gAdd (mSl gSl (mVar 4) (moN) (moS (mVar 9))) (mTup (mCons (mOp2 gAdd (mOp2 gIxA (mVar 4) (mVar 9)) (mConst (.int 1))) (mNil)))) (mSl gSl (mVar 4) (moS (mOp2 gAdd (mVar 9) (mConst (.int 1)))) (moN))) (gN 10))
  (sIf (mB (mOp2 gNe (mCall f_judge_sung 2 (mCons (mVar 1) (mCons (mVar 10) (mNil)))) (mIf (mOrT (mB (mOp2 gIs (mCall f_syllable_of 2 (mCons (mOp2 gAdd (mOp2 gIxA (mVar 4) (mVar 9)) (mConst (.int 1))) (mCons (mOp2 gIxA (mVar 1) (mVar 9)) (mNil)))) (mConst .none))) (mB (mOp2 gNotInA (mOp2 gAdd (mOp2 gIxA (mVar 4) (mVar 9)) (mConst (.int 1))) (mCall f_all_bases 0 mNil)))) (mVar 9) (mConst .none)))) (sRet (mConst (.bool false))) (sNext)))) (sNext))
  (sRet (mConst (.bool true))))))))))
def f__law_sung : Fn := fnM 11 2 m__law_sung
def m__law_hand : MS := sSeq (sAsg (mCall f_all_bases 0 mNil) (gN 1))
  (sSeq (sIf (mOrT (mB (mOp2 gNe (mVar 1) (mNew (mLc [3] (mItN itR2 (mCons (mOp2 gSub (mConst (.int 0)) (mConst (.int 5))) (mCons (mConst (.int 8)) (mNil)))) (gN 3) (mB (mOp2 gInA (mOp2 gMod (mOpN gInt (mCons (mVar 3) (mNil))) (mConst (.int 12))) (mNew (mLst (mCons (mConst (.int 0)) (mCons (mConst (.int 5)) (mCons (mConst (.int 7)) (mNil)))))))) (mVar 3))))) (mB (mOp2 gNe (mVar 1) (mCall f_bases_between 2 (mCons (mOp2 gSub (mConst (.int 0)) (mConst (.int 5))) (mCons (mConst (.int 7)) (mNil))))))) (sRet (mConst (.bool false))) (sNext))
  (sSeq (sAsg (mTup (mCons (mConst (.str "ut")) (mCons (mConst (.str "re")) (mCons (mConst (.str "mi")) (mCons (mConst (.str "fa")) (mCons (mConst (.str "sol")) (mCons (mConst (.str "la")) (mNil)))))))) (gN 2))
  (sSeq (sFor (mIt itA (mVar 1)) (gN 3) (sSeq (sAsg (mCall f_tones_of 1 (mCons (mVar 3) (mNil))) (gN 4))
  (sSeq (sIf (mOrT (mB (mOp2 gNe (mVar 4) (mOpN gTuple (mCons (mNew (mLc [11] (mIt itA (mNew (mLst (mCons (mConst (.int 0)) (mCons (mConst (.int 2)) (mCons (mConst (.int 4)) (mCons (mConst (.int 5)) (mCons (mConst (.int 7)) (mCons (mConst (.int 9)) (mNil)))))))))) (gN 11) (mYes) (mOp2 gAdd (mVar 3) (mVar 11)))) (mNil))))) (mB (mOp2 gNe (mOpN gTuple (mCons (mNew (mLc [5] (mIt itA (mVar 4)) (gN 5) (mYes) (mCall f_syllable_of 2 (mCons (mVar 3) (mCons (mVar 5) (mNil)))))) (mNil))) (mVar 2)))) (sRet (mConst (.bool false))) (sNext))
  (sSeq (sIf (mOrT (mB (mOp2 gNe (mCall f_heights_sung 2 (mCons (mVar 3) (mCons (mVar 2) (mNil)))) (mVar 4))) (mB (mOp2 gNe (mCall f_kind_of 1 (mCons (mVar 3) (mNil))) (mCall f_kind_of 1 (mCons (mOp2 gAdd (mVar 3) (mConst (.int 12))) (mNil)))))) (sRet (mConst (.bool false))) (sNext))
  (sFor (mItN itR2 (mCons (mOp2 gSub (mConst (.int 0)) (mConst (.int 8))) (mCons (mConst (.int 20)) (mNil)))) (gN 5) (sIf (mOrT (mB (mOp2 gNe (mOp2 gIs (mCall f_syllable_of 2 (mCons (mVar 3) (mCons (mVar 5) (mNil)))) (mConst .none)) (mOp2 gNotInA (mVar 5) (mVar 4)))) (mB (mOp2 gNe (mOp2 gInA (mTup (mCons (mVar 3) (mCons (mCall f_syllable_of 2 (mCons (mVar 3) (mCons (mVar 5) (mNil)))) (mNil)))) (mCall f_names_of 1 (mCons (mVar 5) (mNil)))) (mOp2 gInA (mVar 5) (mVar 4))))) (sRet (mConst (.bool false))) (sNext)))))))
  (sSeq (sAsg (mOp2 gIxA (mVar 1) (mCall f__law_draw 2 (mCons (mVar 0) (mCons (mOpN gLen (mCons (mVar 1) (mNil))) (mNil))))) (gN 6))
  (sSeq (sAsg (mOp2 gIxA (mVar 1) (mCall f__law_draw 2 (mCons (mVar 0) (mCons (mOpN gLen (mCons (mVar 1) (mNil))) (mNil))))) (gN 7))
  (sSeq (sIf (mOrT (mB (mOp2 gNe (mCall f_shared_by 2 (mCons (mVar 6) (mCons (mVar 7) (mNil)))) (mOpN gTuple (mCons (mNew (mLc [5] (mIt itA (mCall f_tones_of 1 (mCons (mVar 6) (mNil)))) (gN 5) (mB (mOp2 gInA (mVar 5) (mCall f_tones_of 1 (mCons (mVar 7) (mNil))))) (mVar 5))) (mNil))))) (mB (mOp2 gNe (mCall f_shared_by 2 (mCons (mVar 7) (mCons (mVar 6) (mNil)))) (mCall f_shared_by 2 (mCons (mVar 6) (mCons (mVar 7) (mNil))))))) (sRet (mConst (.bool false))) (sNext))
  (sSeq (sAsg (mOpN gTuple (mCons (mNew (mLc [9] (mItN itR1 (mCons (mCall f__law_draw 2 (mCons (mVar 0) (mCons (mConst (.int 6)) (mNil)))) (mNil))) (gN 9) (mYes) (mOp2 gIxA (mVar 2) (mCall f__law_draw 2 (mCons (mVar 0) (mCons (mConst (.int 6)) (mNil))))))) (mNil))) (gN 8))
  (sRet (mAnd (mOp2 gIs (mCall f_heights_sung 2 (mCons (mVar 6) (mCons (mOp2 gAdd (mVar 8) (mTup (mCons (mConst (.str "si")) (mNil)))) (mNil)))) (mConst .none)) (mOp2 gEq (mOpN gTuple (mCons (mNew (mLc [10] (mIt itA (mCall f_heights_sung 2 (mCons (mVar 6) (mCons (mVar 8) (mNil))))) (gN 10) (mYes) (mCall f_syllable_of 2 (mCons (mVar 6) (mCons (mVar 10) (mNil)))))) (mNil))) (mVar 8)))))))))))
def f__law_hand : Fn := fnM 12 1 m__law_hand
def m__law_sounding : MS := sTry hx_NoSuch (sRet (mCall f_is_sounding 2 (mCons (mVar 0) (mCons (mVar 1) (mNil))))) (sRet (mConst .none))
def f__law_sounding : Fn := fnM 2 2 m__law_sounding
def m__law_planned : MS := sSeq (sAsg (mOp2 gAdd (mConst (.int 1)) (mCall f__law_draw 2 (mCons (mVar 0) (mCons (mConst (.int 9)) (mNil))))) (gN 1))
  (sSeq (sAsg (mCall f__law_draw 2 (mCons (mVar 0) (mCons (mConst (.int 6)) (mNil)))) (gN 2))
  (sSeq (sAsg (mOp2 gAdd (mConst (.int 2)) (mCall f__law_draw 2 (mCons (mVar 0) (mCons (mConst (.int 4)) (mNil))))) (gN 3))
  (sSeq (sAsg (mTup (mCons (mVar 1) (mCons (mVar 2) (mCons (mVar 3) (mNil))))) (gN 4))
  (sSeq (sAsg (mOp2 gAdd (mConst (.int 1)) (mCall f__law_draw 2 (mCons (mVar 0) (mCons (mConst (.int 20)) (mNil))))) (gN 5))
  (sSeq (sAsg (mCall f__law_draw 2 (mCons (mVar 0) (mCons (mVar 5) (mNil)))) (gN 6))
  (sSeq (sAsg (mOp2 gAdd (mOp2 gMul (mOp2 gAdd (mOp2 gMul (mTup (mCons (mConst (.int 1)) (mNil))) (mVar 1)) (mOp2 gMul (mTup (mCons (mConst (.int 0)) (mNil))) (mVar 2))) (mOp2 gSub (mVar 3) (mConst (.int 1)))) (mOp2 gMul (mTup (mCons (mConst (.int 1)) (mNil))) (mVar 1))) (gN 7))
  (sSeq (sIf (mOrT (mNotT (mTru (mCall f__law_same 2 (mCons (mCall f_is_plan 1 (mCons (mVar 4) (mNil))) (mCons (mConst (.bool true)) (mNil)))))) (mOrT (mNotT (mTru (mCall f__law_same 2 (mCons (mCall f_is_plan 1 (mCons (mTup (mCons (mConst (.int 0)) (mCons (mVar 2) (mCons (mVar 3) (mNil))))) (mNil))) (mCons (mConst (.bool false)) (mNil)))))) (mOrT (mB (mOp2 gNe (mCall f_length_of 1 (mCons (mVar 4) (mNil))) (mOpN gLen (mCons (mVar 7) (mNil))))) (mB (mOp2 gNe (mCall f_row_of 1 (mCons (mVar 4) (mNil))) (mVar 7)))))) (sRet (mConst (.bool false))) (sNext))
  (sSeq (sIf (mOrT (mB (mOp2 gNe (mCall f_end_from 3 (mCons (mVar 4) (mCons (mVar 5) (mCons (mVar 6) (mNil))))) (mOp2 gMod (mOpN gInt (mCons (mOp2 gSub (mOp2 gAdd (mVar 6) (mOpN gLen (mCons (mVar 7) (mNil)))) (mConst (.int 1))) (mNil))) (mVar 5)))) (mOrT (mB (mOp2 gNe (mCall f_end_from 3 (mCons (mVar 4) (mCons (mVar 5) (mCons (mCall f_start_for 2 (mCons (mVar 4) (mCons (mVar 5) (mNil)))) (mNil))))) (mConst (.int 0)))) (mB (mInR true (mCall f_start_for 2 (mCons (mVar 4) (mCons (mVar 5) (mNil)))) (mCons (mVar 5) (mNil)))))) (sRet (mConst (.bool false))) (sNext))
  (sSeq (sIf (mOrT (mB (mOp2 gNe (mNew (mLc [20] (mItN itR1 (mCons (mOpN gLen (mCons (mVar 7) (mNil))) (mNil))) (gN 20) (mYes) (mCall f__law_sounding 2 (mCons (mVar 4) (mCons (mVar 20) (mNil)))))) (mNew (mLc [21] (mIt itA (mVar 7)) (gN 21) (mYes) (mOp2 gEq (mVar 21) (mConst (.int 1))))))) (mOrT (mB (mOp2 gIsNot (mCall f__law_sounding 2 (mCons (mVar 4) (mCons (mOpN gLen (mCons (mVar 7) (mNil))) (mNil)))) (mConst .none))) (mB (mOp2 gIsNot (mCall f__law_sounding 2 (mCons (mVar 4) (mCons (mOp2 gSub (mConst (.int 0)) (mConst (.int 1))) (mNil)))) (mConst .none))))) (sRet (mConst (.bool false))) (sNext))
  (sSeq (sIf (mB (mOp2 gNe (mCall f_strokes_at 3 (mCons (mVar 4) (mCons (mVar 5) (mCons (mVar 6) (mNil))))) (mOpN gTuple (mCons (mNew (mLc [22] (mItN itR1 (mCons (mVar 3) (mNil))) (gN 22) (mYes) (mOp2 gMod (mOpN gInt (mCons (mOp2 gAdd (mVar 6) (mOp2 gMul (mVar 22) (mOp2 gAdd (mVar 1) (mVar 2)))) (mNil))) (mVar 5)))) (mNil))))) (sRet (mConst (.bool false))) (sNext))
  (sSeq (sIf (mOrT (mAndT (mB (mOp2 gGe (mOp2 gMul (mOp2 gSub (mCall f_cycles_of 2 (mCons (mVar 4) (mCons (mVar 5) (mNil)))) (mConst (.int 1))) (mVar 5)) (mOp2 gSub (mOpN gLen (mCons (mVar 7) (mNil))) (mConst (.int 1))))) (mB (mOp2 gGt (mOpN gLen (mCons (mVar 7) (mNil))) (mConst (.int 1))))) (mB (mOp2 gLt (mOp2 gMul (mCall f_cycles_of 2 (mCons (mVar 4) (mCons (mVar 5) (mNil)))) (mVar 5)) (mOp2 gSub (mOpN gLen (mCons (mVar 7) (mNil))) (mConst (.int 1)))))) (sRet (mConst (.bool false))) (sNext))
  (sSeq (sAsg (mCall f_rests_for 5 (mCons (mVar 1) (mCons (mVar 3) (mCons (mVar 5) (mCons (mVar 6) (mCons (mConst (.int 25)) (mNil))))))) (gN 8))
  (sSeq (sIf (mB (mOp2 gNe (mVar 8) (mNew (mLc [19] (mItN itR1 (mCons (mConst (.int 26)) (mNil))) (gN 19) (mB (mOp2 gEq (mOp2 gMod (mOpN gInt (mCons (mOp2 gSub (mOp2 gAdd (mOp2 gAdd (mVar 6) (mOp2 gMul (mVar 1) (mVar 3))) (mOp2 gMul (mVar 19) (mOp2 gSub (mVar 3) (mConst (.int 1))))) (mConst (.int 1))) (mNil))) (mVar 5)) (mConst (.int 0)))) (mVar 19))))) (sRet (mConst (.bool false))) (sNext))
  (sSeq (sIf (mB (mOp2 gNe (mCall f_phrases_for 5 (mCons (mVar 2) (mCons (mVar 3) (mCons (mVar 5) (mCons (mVar 6) (mCons (mConst (.int 25)) (mNil))))))) (mNew (mLc [19] (mItN itR2 (mCons (mConst (.int 1)) (mCons (mConst (.int 26)) (mNil)))) (gN 19) (mB (mOp2 gEq (mOp2 gMod (mOpN gInt (mCons (mOp2 gSub (mOp2 gAdd (mOp2 gAdd (mVar 6) (mOp2 gMul (mVar 19) (mVar 3))) (mOp2 gMul (mVar 2) (mOp2 gSub (mVar 3) (mConst (.int 1))))) (mConst (.int 1))) (mNil))) (mVar 5)) (mConst (.int 0)))) (mVar 19))))) (sRet (mConst (.bool false))) (sNext))
  (sSeq (sAsg (mCall f_first_rest 4 (mCons (mVar 1) (mCons (mVar 3) (mCons (mVar 5) (mCons (mVar 6) (mNil)))))) (gN 9))
  (sSeq (sAsg (mNew (mLc [19] (mItN itR1 (mCons (mOp2 gAdd (mVar 5) (mConst (.int 1))) (mNil))) (gN 19) (mB (mOp2 gEq (mOp2 gMod (mOpN gInt (mCons (mOp2 gSub (mOp2 gAdd (mOp2 gAdd (mVar 6) (mOp2 gMul (mVar 1) (mVar 3))) (mOp2 gMul (mVar 19) (mOp2 gSub (mVar 3) (mConst (.int 1))))) (mConst (.int 1))) (mNil))) (mVar 5)) (mConst (.int 0)))) (mVar 19))) (gN 10))
  (sSeq (sIf (mB (mOp2 gNe (mVar 9) (mIf (mB (mOp2 gGt (mOpN gLen (mCons (mVar 10) (mNil))) (mConst (.int 0)))) (mOp2 gIxA (mVar 10) (mConst (.int 0))) (mConst .none)))) (sRet (mConst (.bool false))) (sNext))
  (sSeq (sAsg (mOp2 gAdd (mConst (.int 1)) (mCall f__law_draw 2 (mCons (mVar 0) (mCons (mConst (.int 3)) (mNil))))) (gN 11))
  (sSeq (sAsg (mCall f_plans_filling 3 (mCons (mVar 3) (mCons (mVar 5) (mCons (mVar 11) (mNil))))) (gN 12))
  (sSeq (sIf (mTru (mOpN gAny (mCons (mNew (mLc [19] (mIt itA (mVar 12)) (gN 19) (mYes) (mOr (mOp2 gNe (mCall f_length_of 1 (mCons (mVar 19) (mNil))) (mOp2 gAdd (mOp2 gMul (mVar 5) (mVar 11)) (mConst (.int 1)))) (mOp2 gNe (mOp2 gIxA (mVar 19) (mConst (.int 2))) (mVar 3))))) (mNil)))) (sRet (mConst (.bool false))) (sNext))
  (sSeq (sIf (mB (mOp2 gNe (mOpN gLen (mCons (mVar 12) (mNil))) (mOpN gLen (mCons (mNew (mLc [19] (mItN itR2 (mCons (mConst (.int 1)) (mCons (mOp2 gAdd (mOp2 gMul (mVar 5) (mVar 11)) (mConst (.int 2))) (mNil)))) (gN 19) (mAndT (mB (mOp2 gGe (mOp2 gAdd (mOp2 gMul (mVar 5) (mVar 11)) (mConst (.int 1))) (mOp2 gMul (mVar 19) (mVar 3)))) (mB (mOp2 gEq (mOp2 gMod (mOpN gInt (mCons (mOp2 gSub (mOp2 gAdd (mOp2 gMul (mVar 5) (mVar 11)) (mConst (.int 1))) (mOp2 gMul (mVar 19) (mVar 3))) (mNil))) (mOp2 gSub (mVar 3) (mConst (.int 1)))) (mConst (.int 0))))) (mVar 19))) (mNil))))) (sRet (mConst (.bool false))) (sNext))
  (sSeq (sAsg (mCall f_plan_of 2 (mCons (mVar 7) (mCons (mVar 3) (mNil)))) (gN 13))
  (sSeq (sIf (mOrT (mB (mOp2 gIs (mVar 13) (mConst .none))) (mOrT (mB (mOp2 gNe (mCall f_row_of 1 (mCons (mVar 13) (mNil))) (mVar 7))) (mOrT (mB (mOp2 gNe (mOp2 gIxA (mVar 13) (mConst (.int 2))) (mVar 3))) (mOrT (mB (mOp2 gGt (mOp2 gIxA (mVar 13) (mConst (.int 1))) (mVar 2))) (mB (mOp2 gIsNot (mCall f_plan_of 2 (mCons (mOp2 gAdd (mVar 7) (mTup (mCons (mConst (.int 0)) (mNil)))) (mCons (mVar 3) (mNil)))) (mConst .none))))))) (sRet (mConst (.bool false))) (sNext))
  (sSeq (sAsg (mCall f__law_draw 2 (mCons (mVar 0) (mCons (mConst (.int 4)) (mNil)))) (gN 14))
  (sSeq (sIf (mOrT (mB (mOp2 gNe (mCall f_nested 3 (mCons (mVar 4) (mCons (mVar 14) (mCons (mConst (.int 3)) (mNil))))) (mOp2 gAdd (mOp2 gAdd (mOp2 gAdd (mOp2 gAdd (mVar 7) (mOp2 gMul (mTup (mCons (mConst (.int 0)) (mNil))) (mVar 14))) (mVar 7)) (mOp2 gMul (mTup (mCons (mConst (.int 0)) (mNil))) (mVar 14))) (mVar 7)))) (mB (mOp2 gNe (mCall f_nested_length 3 (mCons (mVar 4) (mCons (mVar 14) (mCons (mConst (.int 3)) (mNil))))) (mOp2 gAdd (mOp2 gMul (mConst (.int 3)) (mOpN gLen (mCons (mVar 7) (mNil)))) (mOp2 gMul (mConst (.int 2)) (mVar 14)))))) (sRet (mConst (.bool false))) (sNext))
  (sSeq (sAsg (mOp2 gAdd (mConst (.int 1)) (mCall f__law_draw 2 (mCons (mVar 0) (mCons (mConst (.int 3)) (mNil))))) (gN 15))
  (sSeq (sAsg (mCall f_shrinking 4 (mCons (mVar 1) (mCons (mVar 15) (mCons (mVar 2) (mCons (mVar 5) (mNil)))))) (gT 2 (gsC (gN 16) (gsC (gN 17) (gsN)))))
  (sSeq (sAsg (mOp2 gAdd (mOpN gSum (mCons (mVar 16) (mNil))) (mOp2 gMul (mVar 2) (mOp2 gSub (mOpN gLen (mCons (mVar 16) (mNil))) (mConst (.int 1))))) (gN 18))
  (sRet (mAnd (mOp2 gEq (mVar 16) (mOpN gTuple (mCons (mNew (mLc [22] (mItN itR1 (mCons (mVar 1) (mNil))) (gN 22) (mB (mOp2 gGt (mOp2 gSub (mVar 1) (mOp2 gMul (mVar 22) (mVar 15))) (mConst (.int 0)))) (mOp2 gSub (mVar 1) (mOp2 gMul (mVar 22) (mVar 15))))) (mNil)))) (mOp2 gEq (mOp2 gMod (mOpN gInt (mCons (mOp2 gSub (mOp2 gAdd (mVar 17) (mVar 18)) (mConst (.int 1))) (mNil))) (mVar 5)) (mConst (.int 0)))))))))))))))))))))))))))))))))
def f__law_planned : Fn := fnM 23 1 m__law_planned
def m_law : MS := sSeq (sSetN 1 (mLst (mCons (mConst (.int 0)) (mCons (mConst (.int 0)) (mCons (mNew (mOpL gList (mCons (mVar 0) (mNil)))) (mCons (mConst (.int 1)) (mNil)))))))
  (sRet (mAnd (mCall f__law_sung 2 (mCons (mVar 1) (mCons (mCall f__law_melody 1 (mCons (mVar 1) (mNil))) (mNil)))) (mAnd (mCall f__law_hand 1 (mCons (mVar 1) (mNil))) (mCall f__law_planned 1 (mCons (mVar 1) (mNil))))))
def f_law : Fn := fnM 2 1 m_law
/-! ### each def keeps its mirror's promise -/
section
variable {P : Program} {w : World} {K : PySem.W.Frag} {mg : Str → Option Value} {base : Heap}
theorem ok_is_integer (T : Top K mg) : FnOk P w K mg base (L2.CX P w) 1 T.a_is_integer T.fd_is_integer ps_is_integer (spM K T.cls f_is_integer 3) :=
  def_ok (N := N_is_integer) T.F_is_integer sc_is_integer (by decide) fun cdv A outer s H E io hr tk => by
    have hN := sc_is_integer.nd
    have hu := hu66 hr
    exact (vss_cons (vs_if (vt_bool (vw_or (vt_not (vt_truth rfl (ve_isi (T' := "int") rfl rfl T.n_isinstance rfl T.n_int rfl (by decide) (ve_var (pv 0))))) (vw_one (vt_truth rfl (ve_isi (T' := "bool") rfl rfl T.n_isinstance rfl T.n_bool rfl (by decide) (ve_var (pv 0))))))) (vss_one (vs_ret (ve_const pe_bl (fun _ => .bl _)))) (vss_nil))
    (vss_one (vs_ret (ve_and rfl (ve_or rfl (ve_cmp op_isV sim_is (ve_var (pv 1)) (ve_const pe_non (fun _ => .non)) (by rfl)) (ve_one (ve_cmp (op_geV (lt64 hu)) sim_ord (ve_var (pv 0)) (ve_var (pv 1)) (by rfl)))) (ve_one (ve_or rfl (ve_cmp op_isV sim_is (ve_var (pv 2)) (ve_const pe_non (fun _ => .non)) (by rfl)) (ve_one (ve_cmp (op_leV (lt64 hu)) sim_ord (ve_var (pv 0)) (ve_var (pv 2)) (by rfl)))))))))
theorem ok_bases_between (T : Top K mg) : FnOk P w K mg base (L2.CX P w) 1 T.a_bases_between T.fd_bases_between ps_bases_between (spM K T.cls f_bases_between 2) :=
  def_ok (N := N_bases_between) T.F_bases_between sc_bases_between (by decide) fun cdv A outer s H E io hr tk => by
    have hN := sc_bases_between.nd
    have hu := hu66 hr
    exact (vss_one (vs_ret (ve_new (vn_lc (own := [("height", 2)]) rfl hN (vi_range2 rfl T.n_range (va_cons (ve_var (pv 0)) (va_cons (ve_op op_addV sim_add (ve_var (pv 1)) (ve_const pe_int (fun _ => .int _))) (va_nil)))) (show BlkOk N_bases_between (defScope s_bases_between) _ _ from ⟨rfl, by decide +kernel, by decide +kernel, by decide +kernel, by decide +kernel⟩) (fun _ _ _ _ _ => vg_name (pg_name hN rfl (by first | exact .inl rfl | exact .inr rfl))) (fun _ _ _ _ _ => vts_one (vt_cmp (op_inA hu) sim_inA (ve_op op_modN sim_mod (ve_var (pv 2)) (ve_const pe_int (fun _ => .int _))) (ve_glob rfl rfl T.c_BASES) (by rfl))) (fun _ _ _ _ _ => ve_var (pv 2)) (by decide)))))
theorem ok_all_bases (T : Top K mg) : FnOk P w K mg base (L2.CX P w) 2 T.a_all_bases T.fd_all_bases ps_all_bases (spM K T.cls f_all_bases 0) :=
  def_ok (N := N_all_bases) T.F_all_bases sc_all_bases (by decide) fun cdv A outer s H E io hr tk => by
    have hN := sc_all_bases.nd
    have hu := hu66 hr
    exact (vss_one (vs_ret (ve_new (vn_lc (own := [("height", 0)]) rfl hN (vi_all rfl (ve_call (ps := ps_bases_between) rfl tk (FnOk.mono (k := 1) (ok_bases_between T) (by decide)) hr rfl T.g_bases_between T.k_bases_between T.b_bases_between (va_cons (ve_glob rfl rfl T.c_LOWEST) (va_cons (ve_op op_addV sim_add (ve_op op_sub sim_sub (ve_glob rfl rfl T.c_HIGHEST) (ve_const pe_int (fun _ => .int _))) (ve_const pe_int (fun _ => .int _))) (va_nil))))) (show BlkOk N_all_bases (defScope s_all_bases) _ _ from ⟨rfl, by decide +kernel, by decide +kernel, by decide +kernel, by decide +kernel⟩) (fun _ _ _ _ _ => vg_name (pg_name hN rfl (by first | exact .inl rfl | exact .inr rfl))) (fun _ _ _ _ _ => vts_one (vt_cmp (op_leV (lt64 hu)) sim_ord (ve_op op_addV sim_add (ve_var (pv 0)) (ve_const pe_int (fun _ => .int _))) (ve_glob rfl rfl T.c_HIGHEST) (by rfl))) (fun _ _ _ _ _ => ve_var (pv 0)) (by decide)))))
theorem ok_tones_of (T : Top K mg) : FnOk P w K mg base (L2.CX P w) 1 T.a_tones_of T.fd_tones_of ps_tones_of (spM K T.cls f_tones_of 1) :=
  def_ok (N := N_tones_of) T.F_tones_of sc_tones_of (by decide) fun cdv A outer s H E io hr tk => by
    have hN := sc_tones_of.nd
    have hu := hu66 hr
    exact (vss_one (vs_ret (ve_callTy call_tuple_of sim_tuple rfl T.n_tuple (by rfl) (va_cons (ve_new (vn_lc (own := [("height", 1)]) rfl hN (vi_all rfl (ve_glob rfl rfl T.c_HEIGHTS)) (show BlkOk N_tones_of (defScope s_tones_of) _ _ from ⟨rfl, by decide +kernel, by decide +kernel, by decide +kernel, by decide +kernel⟩) (fun _ _ _ _ _ => vg_name (pg_name hN rfl (by first | exact .inl rfl | exact .inr rfl))) (fun _ _ _ _ _ => vts_nil) (fun _ _ _ _ _ => ve_op op_addV sim_add (ve_var (pv 0)) (ve_var (pv 1))) (by decide))) (va_nil)))))
theorem ok_syllable_of (T : Top K mg) : FnOk P w K mg base (L2.CX P w) 1 T.a_syllable_of T.fd_syllable_of ps_syllable_of (spM K T.cls f_syllable_of 2) :=
  def_ok (N := N_syllable_of) T.F_syllable_of sc_syllable_of (by decide) fun cdv A outer s H E io hr tk => by
    have hN := sc_syllable_of.nd
    have hu := hu66 hr
    exact (vss_cons (vs_set (ps_set hN (i := 2) rfl (by first | exact .inl rfl | exact .inr rfl) (ve_frz (ve_op op_sub sim_sub (ve_var (pv 1)) (ve_var (pv 0))))))
    (vss_one (vs_ret (ve_if (vt_cmp (op_inA hu) sim_inA (ve_var (pv 2)) (ve_glob rfl rfl T.c_HEIGHTS) (by rfl)) (ve_ix (ix_all (lt1 hu)) sim_ixA (ve_glob rfl rfl T.c_SYLLABLES) (ve_gidx rfl rfl T.t_HEIGHTS (va_cons (ve_var (pv 2)) (va_nil))) (fun _ _ => rfl)) (ve_const pe_non (fun _ => .non))))))
theorem ok_names_of (T : Top K mg) : FnOk P w K mg base (L2.CX P w) 3 T.a_names_of T.fd_names_of ps_names_of (spM K T.cls f_names_of 1) :=
  def_ok (N := N_names_of) T.F_names_of sc_names_of (by decide) fun cdv A outer s H E io hr tk => by
    have hN := sc_names_of.nd
    have hu := hu66 hr
    exact (vss_one (vs_ret (ve_new (vn_lc (own := [("base", 1)]) rfl hN (vi_all rfl (ve_call0 rfl tk (FnOk.mono (k := 2) (ok_all_bases T) (by decide)) hr rfl T.g_all_bases T.k_all_bases T.b_all_bases)) (show BlkOk N_names_of (defScope s_names_of) _ _ from ⟨rfl, by decide +kernel, by decide +kernel, by decide +kernel, by decide +kernel⟩) (fun _ _ _ _ _ => vg_name (pg_name hN rfl (by first | exact .inl rfl | exact .inr rfl))) (fun _ _ _ _ _ => vts_one (vt_cmp op_isNotV sim_isNot (ve_call (ps := ps_syllable_of) rfl takes_no (FnOk.mono (k := 2) (ok_syllable_of T) (by decide)) hr rfl T.g_syllable_of T.k_syllable_of T.b_syllable_of (va_cons (ve_var (pv 1)) (va_cons (ve_var (pv 0)) (va_nil)))) (ve_const pe_non (fun _ => .non)) (by rfl))) (fun _ _ _ _ _ => ve_tup (va_cons (ve_var (pv 1)) (va_cons (ve_call (ps := ps_syllable_of) rfl takes_no (FnOk.mono (k := 2) (ok_syllable_of T) (by decide)) hr rfl T.g_syllable_of T.k_syllable_of T.b_syllable_of (va_cons (ve_var (pv 1)) (va_cons (ve_var (pv 0)) (va_nil)))) (va_nil)))) (by decide)))))
theorem ok_is_in_hand (T : Top K mg) : FnOk P w K mg base (L2.CX P w) 4 T.a_is_in_hand T.fd_is_in_hand ps_is_in_hand (spM K T.cls f_is_in_hand 1) :=
  def_ok (N := N_is_in_hand) T.F_is_in_hand sc_is_in_hand (by decide) fun cdv A outer s H E io hr tk => by
    have hN := sc_is_in_hand.nd
    have hu := hu66 hr
    exact (vss_one (vs_ret (ve_cmp (op_gtV (lt64 hu)) sim_ord (ve_callB cr_len sim_len rfl T.n_len (by rfl) (va_cons (ve_call (ps := ps_names_of) rfl tk (FnOk.mono (k := 3) (ok_names_of T) (by decide)) hr rfl T.g_names_of T.k_names_of T.b_names_of (va_cons (ve_var (pv 0)) (va_nil))) (va_nil))) (ve_const pe_int (fun _ => .int _)) (by rfl))))
theorem ok_fewest_changes (T : Top K mg) : FnOk P w K mg base (L2.CX P w) 4 T.a_fewest_changes T.fd_fewest_changes ps_fewest_changes (spM K T.cls f_fewest_changes 1) :=
  def_ok (N := N_fewest_changes) T.F_fewest_changes sc_fewest_changes (by decide) fun cdv A outer s H E io hr tk => by
    have hN := sc_fewest_changes.nd
    have hu := hu66 hr
    exact (vss_cons (vs_if (vt_not (vt_truth rfl (ve_var (pv 0)))) (vss_one (vs_ret (ve_tup (va_cons (ve_const pe_int (fun _ => .int _)) (va_cons (ve_tup (va_nil)) (va_nil)))))) (vss_nil))
    (vss_cons (vs_setB (ps_set hN (i := 1) rfl (by first | exact .inl rfl | exact .inr rfl) (vb_dc (own := [("base", 4), ("_", 5)]) rfl hN (vi_all rfl (ve_call (ps := ps_names_of) rfl tk (FnOk.mono (k := 3) (ok_names_of T) (by decide)) hr rfl T.g_names_of T.k_names_of T.b_names_of (va_cons (ve_ix (ix_all (lt1 hu)) sim_ixA (ve_var (pv 0)) (ve_const pe_int (fun _ => .int _)) (fun _ _ => rfl)) (va_nil)))) (show BlkOk N_fewest_changes (defScope s_fewest_changes) _ _ from ⟨rfl, by decide +kernel, by decide +kernel, by decide +kernel, by decide +kernel⟩) (fun _ _ _ _ _ => vg_tup rfl rfl (vgs_cons (vg_name (pg_name hN rfl (by first | exact .inl rfl | exact .inr rfl))) (vgs_cons (vg_name (pg_name hN rfl (by first | exact .inl rfl | exact .inr rfl))) (vgs_nil)))) (fun _ _ _ _ _ => vts_nil) (fun _ _ _ _ _ => ve_var (pv 4)) (fun _ _ _ _ _ => ve_tup (va_cons (ve_const pe_int (fun _ => .int _)) (va_cons (ve_tup (va_cons (ve_var (pv 4)) (va_nil))) (va_nil)))) (by decide)) (by rfl)))
    (vss_cons (vs_for (passes_of rfl) rfl (vi_all rfl (ve_slice sl_V sim_sl (ve_var (pv 0)) (vo_some (ve_const pe_int (fun _ => .int _))) (vo_none))) (vg_name (pg_name hN rfl (by first | exact .inl rfl | exact .inr rfl))) (vss_cons (vs_setB (ps_set hN (i := 3) rfl (by first | exact .inl rfl | exact .inr rfl) (vb_dk0)))
    (vss_cons (vs_for (passes_of rfl) rfl (vi_all rfl (ve_call (ps := ps_names_of) rfl tk (FnOk.mono (k := 3) (ok_names_of T) (by decide)) hr rfl T.g_names_of T.k_names_of T.b_names_of (va_cons (ve_var (pv 2)) (va_nil)))) (vg_tup rfl rfl (vgs_cons (vg_name (pg_name hN rfl (by first | exact .inl rfl | exact .inr rfl))) (vgs_cons (vg_name (pg_name hN rfl (by first | exact .inl rfl | exact .inr rfl))) (vgs_nil)))) (vss_cons (vs_set (tAsg_weak (vs_setLc (own := [("before", 7)]) (i := 6) rfl hN rfl rfl (sw_true rfl rfl rfl rfl) (vi_all rfl (ve_var (pv 1))) (show BlkOk N_fewest_changes (defScope s_fewest_changes) _ _ from ⟨rfl, by decide +kernel, by decide +kernel, by decide +kernel, by decide +kernel⟩) (fun _ _ _ _ _ => vg_name (pg_name hN rfl (by first | exact .inl rfl | exact .inr rfl))) (fun _ _ _ _ _ => vts_nil) (fun _ _ _ _ _ => ve_tup (va_cons (ve_op op_addV sim_add (ve_ix (ix_all (lt1 hu)) sim_ixA (ve_ix (ix_all (lt1 hu)) sim_ixA (ve_var (pv 1)) (ve_var (pv 7)) (fun _ _ => rfl)) (ve_const pe_int (fun _ => .int _)) (fun _ _ => rfl)) (ve_callTy call_int1 sim_int rfl T.n_int (by rfl) (va_cons (ve_cmp (op_neD (lt64 hu)) sim_ne (ve_var (pv 7)) (ve_var (pv 4)) (by rfl)) (va_nil)))) (va_cons (ve_op op_addV sim_add (ve_ix (ix_all (lt1 hu)) sim_ixA (ve_ix (ix_all (lt1 hu)) sim_ixA (ve_var (pv 1)) (ve_var (pv 7)) (fun _ _ => rfl)) (ve_const pe_int (fun _ => .int _)) (fun _ _ => rfl)) (ve_tup (va_cons (ve_var (pv 4)) (va_nil)))) (va_nil)))) (by decide)) newD))
    (vss_one (vs_if (vt_truth rfl (ve_var (pv 6))) (vss_one (vs_setI sim_setA (ps_asg (ve_frz (ve_callB (cr_minV rfl hu) sim_min rfl T.n_min (by rfl) (va_cons (ve_var (pv 6)) (va_nil)))) (pg_sub (pv 3) (ve_var (pv 4)) (set_all (lt1 hu)))))) (vss_nil)))))
    (vss_one (vs_set (ps_set hN (i := 1) rfl (by first | exact .inl rfl | exact .inr rfl) (ve_frz (ve_var (pv 3)))))))))
    (vss_one (vs_ret (ve_if (vt_truth rfl (ve_var (pv 1))) (ve_callB (cr_minV rfl hu) sim_min rfl T.n_min (by rfl) (va_cons (ve_new (vn_lc (own := [("base", 4)]) rfl hN (vi_all rfl (ve_var (pv 1))) (show BlkOk N_fewest_changes (defScope s_fewest_changes) _ _ from ⟨rfl, by decide +kernel, by decide +kernel, by decide +kernel, by decide +kernel⟩) (fun _ _ _ _ _ => vg_name (pg_name hN rfl (by first | exact .inl rfl | exact .inr rfl))) (fun _ _ _ _ _ => vts_nil) (fun _ _ _ _ _ => ve_ix (ix_all (lt1 hu)) sim_ixA (ve_var (pv 1)) (ve_var (pv 4)) (fun _ _ => rfl)) (by decide))) (va_nil))) (ve_const pe_non (fun _ => .non))))))))
theorem ok_sung (T : Top K mg) : FnOk P w K mg base (L2.CX P w) 5 T.a_sung T.fd_sung ps_sung (spM K T.cls f_sung 1) :=
  def_ok (N := N_sung) T.F_sung sc_sung (by decide) fun cdv A outer s H E io hr tk => by
    have hN := sc_sung.nd
    have hu := hu66 hr
    exact (vss_cons (vs_set (ps_set hN (i := 1) rfl (by first | exact .inl rfl | exact .inr rfl) (ve_frz (ve_call (ps := ps_fewest_changes) rfl tk (FnOk.mono (k := 4) (ok_fewest_changes T) (by decide)) hr rfl T.g_fewest_changes T.k_fewest_changes T.b_fewest_changes (va_cons (ve_var (pv 0)) (va_nil))))))
    (vss_cons (vs_if (vt_cmp op_isV sim_is (ve_var (pv 1)) (ve_const pe_non (fun _ => .non)) (by rfl)) (vss_one (vs_ret (ve_const pe_non (fun _ => .non)))) (vss_nil))
    (vss_one (vs_ret (ve_callTy call_tuple_of sim_tuple rfl T.n_tuple (by rfl) (va_cons (ve_new (vn_lc (own := [("base", 2), ("height", 3)]) rfl hN (vi_zip rfl rfl T.n_zip (va_cons (ve_ix (ix_all (lt1 hu)) sim_ixA (ve_var (pv 1)) (ve_const pe_int (fun _ => .int _)) (fun _ _ => rfl)) (va_cons (ve_var (pv 0)) (va_nil)))) (show BlkOk N_sung (defScope s_sung) _ _ from ⟨rfl, by decide +kernel, by decide +kernel, by decide +kernel, by decide +kernel⟩) (fun _ _ _ _ _ => vg_tup rfl rfl (vgs_cons (vg_name (pg_name hN rfl (by first | exact .inl rfl | exact .inr rfl))) (vgs_cons (vg_name (pg_name hN rfl (by first | exact .inl rfl | exact .inr rfl))) (vgs_nil)))) (fun _ _ _ _ _ => vts_nil) (fun _ _ _ _ _ => ve_call (ps := ps_syllable_of) rfl takes_no (FnOk.mono (k := 4) (ok_syllable_of T) (by decide)) hr rfl T.g_syllable_of T.k_syllable_of T.b_syllable_of (va_cons (ve_var (pv 2)) (va_cons (ve_var (pv 3)) (va_nil)))) (by decide))) (va_nil)))))))
theorem ok_changes_at (T : Top K mg) : FnOk P w K mg base (L2.CX P w) 1 T.a_changes_at T.fd_changes_at ps_changes_at (spM K T.cls f_changes_at 1) :=
  def_ok (N := N_changes_at) T.F_changes_at sc_changes_at (by decide) fun cdv A outer s H E io hr tk => by
    have hN := sc_changes_at.nd
    have hu := hu66 hr
    exact (vss_one (vs_ret (ve_callTy call_tuple_of sim_tuple rfl T.n_tuple (by rfl) (va_cons (ve_new (vn_lc (own := [("place", 1)]) rfl hN (vi_range2 rfl T.n_range (va_cons (ve_const pe_int (fun _ => .int _)) (va_cons (ve_callB cr_len sim_len rfl T.n_len (by rfl) (va_cons (ve_var (pv 0)) (va_nil))) (va_nil)))) (show BlkOk N_changes_at (defScope s_changes_at) _ _ from ⟨rfl, by decide +kernel, by decide +kernel, by decide +kernel, by decide +kernel⟩) (fun _ _ _ _ _ => vg_name (pg_name hN rfl (by first | exact .inl rfl | exact .inr rfl))) (fun _ _ _ _ _ => vts_one (vt_cmp (op_neD (lt64 hu)) sim_ne (ve_ix (ix_all (lt1 hu)) sim_ixA (ve_var (pv 0)) (ve_var (pv 1)) (fun _ _ => rfl)) (ve_ix (ix_all (lt1 hu)) sim_ixA (ve_var (pv 0)) (ve_op op_sub sim_sub (ve_var (pv 1)) (ve_const pe_int (fun _ => .int _))) (fun _ _ => rfl)) (by rfl))) (fun _ _ _ _ _ => ve_var (pv 1)) (by decide))) (va_nil)))))
theorem ok_judge_sung (T : Top K mg) : FnOk P w K mg base (L2.CX P w) 3 T.a_judge_sung T.fd_judge_sung ps_judge_sung (spM K T.cls f_judge_sung 2) :=
  def_ok (N := N_judge_sung) T.F_judge_sung sc_judge_sung (by decide) fun cdv A outer s H E io hr tk => by
    have hN := sc_judge_sung.nd
    have hu := hu66 hr
    exact (vss_cons (vs_if (vt_not (vt_truth rfl (ve_isi (T' := "tuple") rfl rfl T.n_isinstance rfl T.n_tuple rfl (by decide) (ve_var (pv 1))))) (vss_one (vs_ret (ve_const pe_int (fun _ => .int _)))) (vss_nil))
    (vss_cons (vs_if (vt_cmp (op_neD (lt64 hu)) sim_ne (ve_callB cr_len sim_len rfl T.n_len (by rfl) (va_cons (ve_var (pv 1)) (va_nil))) (ve_callB cr_len sim_len rfl T.n_len (by rfl) (va_cons (ve_var (pv 0)) (va_nil))) (by rfl)) (vss_one (vs_ret (ve_callB (cr_minV rfl hu) sim_min rfl T.n_min (by rfl) (va_cons (ve_callB cr_len sim_len rfl T.n_len (by rfl) (va_cons (ve_var (pv 1)) (va_nil))) (va_cons (ve_callB cr_len sim_len rfl T.n_len (by rfl) (va_cons (ve_var (pv 0)) (va_nil))) (va_nil)))))) (vss_nil))
    (vss_cons (vs_for (passes_of rfl) rfl (vi_enumZ rfl rfl T.n_enumerate rfl T.n_zip (va_cons (ve_var (pv 1)) (va_cons (ve_var (pv 0)) (va_nil)))) (vg_tup rfl rfl (vgs_cons (vg_name (pg_name hN rfl (by first | exact .inl rfl | exact .inr rfl))) (vgs_cons (vg_tup rfl rfl (vgs_cons (vg_name (pg_name hN rfl (by first | exact .inl rfl | exact .inr rfl))) (vgs_cons (vg_name (pg_name hN rfl (by first | exact .inl rfl | exact .inr rfl))) (vgs_nil)))) (vgs_nil)))) (vss_one (vs_if (vt_bool (vw_or (vt_cmp (op_notInA hu) sim_notInA (ve_var (pv 3)) (ve_call0 rfl tk (FnOk.mono (k := 2) (ok_all_bases T) (by decide)) hr rfl T.g_all_bases T.k_all_bases T.b_all_bases) (by rfl)) (vw_one (vt_cmp op_isV sim_is (ve_call (ps := ps_syllable_of) rfl tk (FnOk.mono (k := 2) (ok_syllable_of T) (by decide)) hr rfl T.g_syllable_of T.k_syllable_of T.b_syllable_of (va_cons (ve_var (pv 3)) (va_cons (ve_var (pv 4)) (va_nil)))) (ve_const pe_non (fun _ => .non)) (by rfl))))) (vss_one (vs_ret (ve_var (pv 2)))) (vss_nil))))
    (vss_one (vs_ret (ve_const pe_non (fun _ => .non)))))))
theorem ok_kind_of (T : Top K mg) : FnOk P w K mg base (L2.CX P w) 1 T.a_kind_of T.fd_kind_of ps_kind_of (spM K T.cls f_kind_of 1) :=
  def_ok (N := N_kind_of) T.F_kind_of sc_kind_of (by decide) fun cdv A outer s H E io hr tk => by
    have hN := sc_kind_of.nd
    have hu := hu66 hr
    exact (vss_one (vs_ret (ve_ix (ix_all (lt1 hu)) sim_ixA (ve_newB (vb_disp (ps := [(mConst (.int 0), mConst (.str "natural")), (mConst (.int 5), mConst (.str "soft")), (mConst (.int 7), mConst (.str "hard"))]) (pps_cons (ve_frz (ve_const pe_int (fun _ => .int _))) (ve_frz (ve_const pe_str (fun _ => .str _))) (pps_cons (ve_frz (ve_const pe_int (fun _ => .int _))) (ve_frz (ve_const pe_str (fun _ => .str _))) (pps_cons (ve_frz (ve_const pe_int (fun _ => .int _))) (ve_frz (ve_const pe_str (fun _ => .str _))) (pps_nil)))) rfl rfl (by simp) (by decide) (by decide))) (ve_op op_modN sim_mod (ve_var (pv 0)) (ve_const pe_int (fun _ => .int _))) (fun _ _ => rfl))))
theorem ok_shared_by (T : Top K mg) : FnOk P w K mg base (L2.CX P w) 2 T.a_shared_by T.fd_shared_by ps_shared_by (spM K T.cls f_shared_by 2) :=
  def_ok (N := N_shared_by) T.F_shared_by sc_shared_by (by decide) fun cdv A outer s H E io hr tk => by
    have hN := sc_shared_by.nd
    have hu := hu66 hr
    exact (vss_one (vs_ret (ve_callTy call_tuple_of sim_tuple rfl T.n_tuple (by rfl) (va_cons (ve_new (vn_lc (own := [("height", 2)]) rfl hN (vi_all rfl (ve_call (ps := ps_tones_of) rfl tk (FnOk.mono (k := 1) (ok_tones_of T) (by decide)) hr rfl T.g_tones_of T.k_tones_of T.b_tones_of (va_cons (ve_var (pv 0)) (va_nil)))) (show BlkOk N_shared_by (defScope s_shared_by) _ _ from ⟨rfl, by decide +kernel, by decide +kernel, by decide +kernel, by decide +kernel⟩) (fun _ _ _ _ _ => vg_name (pg_name hN rfl (by first | exact .inl rfl | exact .inr rfl))) (fun _ _ _ _ _ => vts_one (vt_cmp (op_inA hu) sim_inA (ve_var (pv 2)) (ve_call (ps := ps_tones_of) rfl takes_no (FnOk.mono (k := 1) (ok_tones_of T) (by decide)) hr rfl T.g_tones_of T.k_tones_of T.b_tones_of (va_cons (ve_var (pv 1)) (va_nil))) (by rfl))) (fun _ _ _ _ _ => ve_var (pv 2)) (by decide))) (va_nil)))))
theorem ok_heights_sung (T : Top K mg) : FnOk P w K mg base (L2.CX P w) 1 T.a_heights_sung T.fd_heights_sung ps_heights_sung (spM K T.cls f_heights_sung 2) :=
  def_ok (N := N_heights_sung) T.F_heights_sung sc_heights_sung (by decide) fun cdv A outer s H E io hr tk => by
    have hN := sc_heights_sung.nd
    have hu := hu66 hr
    exact (vss_cons (vs_setN (ps_set hN (i := 2) rfl (by first | exact .inl rfl | exact .inr rfl) (vn_lst (va_nil))))
    (vss_cons (vs_for (passes_of rfl) rfl (vi_all rfl (ve_var (pv 1))) (vg_name (pg_name hN rfl (by first | exact .inl rfl | exact .inr rfl))) (vss_cons (vs_if (vt_cmp (op_notInA hu) sim_notInA (ve_var (pv 3)) (ve_glob rfl rfl T.c_SYLLABLES) (by rfl)) (vss_one (vs_ret (ve_const pe_non (fun _ => .non)))) (vss_nil))
    (vss_one (vs_expr (ve_meth rfl PySem.F.plainAttrs_list PySem.F.slot_list_append PySem.F.type_list_append mt_append sim_append (pv 2) (va_cons (ve_op op_addV sim_add (ve_var (pv 0)) (ve_ix (ix_all (lt1 hu)) sim_ixA (ve_glob rfl rfl T.c_HEIGHTS) (ve_gidx rfl rfl T.t_SYLLABLES (va_cons (ve_var (pv 3)) (va_nil))) (fun _ _ => rfl))) (va_nil)))))))
    (vss_one (vs_ret (ve_callTy call_tuple_of sim_tuple rfl T.n_tuple (by rfl) (va_cons (ve_var (pv 2)) (va_nil)))))))
theorem ok_is_plan (T : Top K mg) : FnOk P w K mg base (L2.CX P w) 2 T.a_is_plan T.fd_is_plan ps_is_plan (spM K T.cls f_is_plan 1) :=
  def_ok (N := N_is_plan) T.F_is_plan sc_is_plan (by decide) fun cdv A outer s H E io hr tk => by
    have hN := sc_is_plan.nd
    have hu := hu66 hr
    exact (vss_one (vs_ret (ve_and rfl (ve_isi (T' := "tuple") rfl rfl T.n_isinstance rfl T.n_tuple rfl (by decide) (ve_var (pv 0))) (ve_and rfl (ve_cmp (op_eqD (lt64 hu)) sim_eq (ve_callB cr_len sim_len rfl T.n_len (by rfl) (va_cons (ve_var (pv 0)) (va_nil))) (ve_const pe_int (fun _ => .int _)) (by rfl)) (ve_and rfl (ve_call (ps := ps_is_integer) rfl tk (FnOk.mono (k := 1) (ok_is_integer T) (by decide)) hr rfl T.g_is_integer T.k_is_integer T.b_is_integer (va_cons (ve_ix (ix_all (lt1 hu)) sim_ixA (ve_var (pv 0)) (ve_const pe_int (fun _ => .int _)) (fun _ _ => rfl)) (va_cons (ve_const pe_int (fun _ => .int _)) (va_cons (ve_const pe_int (fun _ => .int _)) (va_nil))))) (ve_and rfl (ve_call (ps := ps_is_integer) rfl tk (FnOk.mono (k := 1) (ok_is_integer T) (by decide)) hr rfl T.g_is_integer T.k_is_integer T.b_is_integer (va_cons (ve_ix (ix_all (lt1 hu)) sim_ixA (ve_var (pv 0)) (ve_const pe_int (fun _ => .int _)) (fun _ _ => rfl)) (va_cons (ve_const pe_int (fun _ => .int _)) (va_cons (ve_const pe_int (fun _ => .int _)) (va_nil))))) (ve_one (ve_call (ps := ps_is_integer) rfl tk (FnOk.mono (k := 1) (ok_is_integer T) (by decide)) hr rfl T.g_is_integer T.k_is_integer T.b_is_integer (va_cons (ve_ix (ix_all (lt1 hu)) sim_ixA (ve_var (pv 0)) (ve_const pe_int (fun _ => .int _)) (fun _ _ => rfl)) (va_cons (ve_const pe_int (fun _ => .int _)) (va_cons (ve_glob rfl rfl T.c_MOST_TIMES) (va_nil))))))))))))
theorem ok_length_of (T : Top K mg) : FnOk P w K mg base (L2.CX P w) 1 T.a_length_of T.fd_length_of ps_length_of (spM K T.cls f_length_of 1) :=
  def_ok (N := N_length_of) T.F_length_of sc_length_of (by decide) fun cdv A outer s H E io hr tk => by
    have hN := sc_length_of.nd
    have hu := hu66 hr
    exact (vss_cons (vs_asg (ps_asg (ve_frz (ve_var (pv 0))) (vg_tup rfl rfl (vgs_cons (vg_name (pg_name hN rfl (by first | exact .inl rfl | exact .inr rfl))) (vgs_cons (vg_name (pg_name hN rfl (by first | exact .inl rfl | exact .inr rfl))) (vgs_cons (vg_name (pg_name hN rfl (by first | exact .inl rfl | exact .inr rfl))) (vgs_nil)))))))
    (vss_one (vs_ret (ve_op op_addV sim_add (ve_op op_mulV sim_mul (ve_var (pv 1)) (ve_var (pv 3))) (ve_op op_mulV sim_mul (ve_var (pv 2)) (ve_op op_sub sim_sub (ve_var (pv 3)) (ve_const pe_int (fun _ => .int _))))))))
theorem ok_end_from (T : Top K mg) : FnOk P w K mg base (L2.CX P w) 2 T.a_end_from T.fd_end_from ps_end_from (spM K T.cls f_end_from 3) :=
  def_ok (N := N_end_from) T.F_end_from sc_end_from (by decide) fun cdv A outer s H E io hr tk => by
    have hN := sc_end_from.nd
    have hu := hu66 hr
    exact (vss_one (vs_ret (ve_op op_modN sim_mod (ve_op op_sub sim_sub (ve_op op_addV sim_add (ve_var (pv 2)) (ve_call (ps := ps_length_of) rfl tk (FnOk.mono (k := 1) (ok_length_of T) (by decide)) hr rfl T.g_length_of T.k_length_of T.b_length_of (va_cons (ve_var (pv 0)) (va_nil)))) (ve_const pe_int (fun _ => .int _))) (ve_var (pv 1)))))
theorem ok_start_for (T : Top K mg) : FnOk P w K mg base (L2.CX P w) 2 T.a_start_for T.fd_start_for ps_start_for (spM K T.cls f_start_for 2) :=
  def_ok (N := N_start_for) T.F_start_for sc_start_for (by decide) fun cdv A outer s H E io hr tk => by
    have hN := sc_start_for.nd
    have hu := hu66 hr
    exact (vss_one (vs_ret (ve_op op_modN sim_mod (ve_op op_sub sim_sub (ve_const pe_int (fun _ => .int _)) (ve_call (ps := ps_length_of) rfl tk (FnOk.mono (k := 1) (ok_length_of T) (by decide)) hr rfl T.g_length_of T.k_length_of T.b_length_of (va_cons (ve_var (pv 0)) (va_nil)))) (ve_var (pv 1)))))
theorem ok_cycles_of (T : Top K mg) : FnOk P w K mg base (L2.CX P w) 2 T.a_cycles_of T.fd_cycles_of ps_cycles_of (spM K T.cls f_cycles_of 2) :=
  def_ok (N := N_cycles_of) T.F_cycles_of sc_cycles_of (by decide) fun cdv A outer s H E io hr tk => by
    have hN := sc_cycles_of.nd
    have hu := hu66 hr
    exact (vss_one (vs_ret (ve_op op_fdivN sim_fdiv (ve_op op_sub sim_sub (ve_op op_addV sim_add (ve_op op_sub sim_sub (ve_call (ps := ps_length_of) rfl tk (FnOk.mono (k := 1) (ok_length_of T) (by decide)) hr rfl T.g_length_of T.k_length_of T.b_length_of (va_cons (ve_var (pv 0)) (va_nil))) (ve_const pe_int (fun _ => .int _))) (ve_var (pv 1))) (ve_const pe_int (fun _ => .int _))) (ve_var (pv 1)))))
theorem ok_rests_for (T : Top K mg) : FnOk P w K mg base (L2.CX P w) 3 T.a_rests_for T.fd_rests_for ps_rests_for (spM K T.cls f_rests_for 5) :=
  def_ok (N := N_rests_for) T.F_rests_for sc_rests_for (by decide) fun cdv A outer s H E io hr tk => by
    have hN := sc_rests_for.nd
    have hu := hu66 hr
    exact (vss_one (vs_ret (ve_new (vn_lc (own := [("rest", 5)]) rfl hN (vi_range1 rfl T.n_range (va_cons (ve_op op_addV sim_add (ve_var (pv 4)) (ve_const pe_int (fun _ => .int _))) (va_nil))) (show BlkOk N_rests_for (defScope s_rests_for) _ _ from ⟨rfl, by decide +kernel, by decide +kernel, by decide +kernel, by decide +kernel⟩) (fun _ _ _ _ _ => vg_name (pg_name hN rfl (by first | exact .inl rfl | exact .inr rfl))) (fun _ _ _ _ _ => vts_one (vt_cmp (op_eqD (lt64 hu)) sim_eq (ve_call (ps := ps_end_from) rfl takes_no (FnOk.mono (k := 2) (ok_end_from T) (by decide)) hr rfl T.g_end_from T.k_end_from T.b_end_from (va_cons (ve_tup (va_cons (ve_var (pv 0)) (va_cons (ve_var (pv 5)) (va_cons (ve_var (pv 1)) (va_nil))))) (va_cons (ve_var (pv 2)) (va_cons (ve_var (pv 3)) (va_nil))))) (ve_const pe_int (fun _ => .int _)) (by rfl))) (fun _ _ _ _ _ => ve_var (pv 5)) (by decide)))))
theorem ok_phrases_for (T : Top K mg) : FnOk P w K mg base (L2.CX P w) 3 T.a_phrases_for T.fd_phrases_for ps_phrases_for (spM K T.cls f_phrases_for 5) :=
  def_ok (N := N_phrases_for) T.F_phrases_for sc_phrases_for (by decide) fun cdv A outer s H E io hr tk => by
    have hN := sc_phrases_for.nd
    have hu := hu66 hr
    exact (vss_one (vs_ret (ve_new (vn_lc (own := [("phrase", 5)]) rfl hN (vi_range2 rfl T.n_range (va_cons (ve_const pe_int (fun _ => .int _)) (va_cons (ve_op op_addV sim_add (ve_var (pv 4)) (ve_const pe_int (fun _ => .int _))) (va_nil)))) (show BlkOk N_phrases_for (defScope s_phrases_for) _ _ from ⟨rfl, by decide +kernel, by decide +kernel, by decide +kernel, by decide +kernel⟩) (fun _ _ _ _ _ => vg_name (pg_name hN rfl (by first | exact .inl rfl | exact .inr rfl))) (fun _ _ _ _ _ => vts_one (vt_cmp (op_eqD (lt64 hu)) sim_eq (ve_call (ps := ps_end_from) rfl takes_no (FnOk.mono (k := 2) (ok_end_from T) (by decide)) hr rfl T.g_end_from T.k_end_from T.b_end_from (va_cons (ve_tup (va_cons (ve_var (pv 5)) (va_cons (ve_var (pv 0)) (va_cons (ve_var (pv 1)) (va_nil))))) (va_cons (ve_var (pv 2)) (va_cons (ve_var (pv 3)) (va_nil))))) (ve_const pe_int (fun _ => .int _)) (by rfl))) (fun _ _ _ _ _ => ve_var (pv 5)) (by decide)))))
theorem ok_plans_filling (T : Top K mg) : FnOk P w K mg base (L2.CX P w) 1 T.a_plans_filling T.fd_plans_filling ps_plans_filling (spM K T.cls f_plans_filling 3) :=
  def_ok (N := N_plans_filling) T.F_plans_filling sc_plans_filling (by decide) fun cdv A outer s H E io hr tk => by
    have hN := sc_plans_filling.nd
    have hu := hu66 hr
    exact (vss_cons (vs_set (ps_set hN (i := 3) rfl (by first | exact .inl rfl | exact .inr rfl) (ve_frz (ve_op op_addV sim_add (ve_op op_mulV sim_mul (ve_var (pv 1)) (ve_var (pv 2))) (ve_const pe_int (fun _ => .int _))))))
    (vss_cons (vs_setN (ps_set hN (i := 4) rfl (by first | exact .inl rfl | exact .inr rfl) (vn_lst (va_nil))))
    (vss_cons (vs_for (passes_of rfl) rfl (vi_range2 rfl T.n_range (va_cons (ve_const pe_int (fun _ => .int _)) (va_cons (ve_op op_addV sim_add (ve_op op_fdivN sim_fdiv (ve_var (pv 3)) (ve_var (pv 0))) (ve_const pe_int (fun _ => .int _))) (va_nil)))) (vg_name (pg_name hN rfl (by first | exact .inl rfl | exact .inr rfl))) (vss_cons (vs_set (ps_set hN (i := 6) rfl (by first | exact .inl rfl | exact .inr rfl) (ve_frz (ve_op op_sub sim_sub (ve_var (pv 3)) (ve_op op_mulV sim_mul (ve_var (pv 5)) (ve_var (pv 0)))))))
    (vss_one (vs_if (vt_cmp (op_eqD (lt64 hu)) sim_eq (ve_op op_modN sim_mod (ve_var (pv 6)) (ve_op op_sub sim_sub (ve_var (pv 0)) (ve_const pe_int (fun _ => .int _)))) (ve_const pe_int (fun _ => .int _)) (by rfl)) (vss_one (vs_expr (ve_meth rfl PySem.F.plainAttrs_list PySem.F.slot_list_append PySem.F.type_list_append mt_append sim_append (pv 4) (va_cons (ve_tup (va_cons (ve_var (pv 5)) (va_cons (ve_op op_fdivN sim_fdiv (ve_var (pv 6)) (ve_op op_sub sim_sub (ve_var (pv 0)) (ve_const pe_int (fun _ => .int _)))) (va_cons (ve_var (pv 0)) (va_nil))))) (va_nil))))) (vss_nil)))))
    (vss_one (vs_ret (ve_var (pv 4)))))))
theorem ok_strokes_at (T : Top K mg) : FnOk P w K mg base (L2.CX P w) 1 T.a_strokes_at T.fd_strokes_at ps_strokes_at (spM K T.cls f_strokes_at 3) :=
  def_ok (N := N_strokes_at) T.F_strokes_at sc_strokes_at (by decide) fun cdv A outer s H E io hr tk => by
    have hN := sc_strokes_at.nd
    have hu := hu66 hr
    exact (vss_cons (vs_asg (ps_asg (ve_frz (ve_var (pv 0))) (vg_tup rfl rfl (vgs_cons (vg_name (pg_name hN rfl (by first | exact .inl rfl | exact .inr rfl))) (vgs_cons (vg_name (pg_name hN rfl (by first | exact .inl rfl | exact .inr rfl))) (vgs_cons (vg_name (pg_name hN rfl (by first | exact .inl rfl | exact .inr rfl))) (vgs_nil)))))))
    (vss_one (vs_ret (ve_callTy call_tuple_of sim_tuple rfl T.n_tuple (by rfl) (va_cons (ve_new (vn_lc (own := [("number", 6)]) rfl hN (vi_range1 rfl T.n_range (va_cons (ve_var (pv 5)) (va_nil))) (show BlkOk N_strokes_at (defScope s_strokes_at) _ _ from ⟨rfl, by decide +kernel, by decide +kernel, by decide +kernel, by decide +kernel⟩) (fun _ _ _ _ _ => vg_name (pg_name hN rfl (by first | exact .inl rfl | exact .inr rfl))) (fun _ _ _ _ _ => vts_nil) (fun _ _ _ _ _ => ve_op op_modN sim_mod (ve_op op_addV sim_add (ve_var (pv 2)) (ve_op op_mulV sim_mul (ve_var (pv 6)) (ve_op op_addV sim_add (ve_var (pv 3)) (ve_var (pv 4))))) (ve_var (pv 1))) (by decide))) (va_nil))))))
theorem ok_is_sounding (T : Top K mg) : FnOk P w K mg base (L2.CX P w) 2 T.a_is_sounding T.fd_is_sounding ps_is_sounding (spM K T.cls f_is_sounding 2) :=
  def_ok (N := N_is_sounding) T.F_is_sounding sc_is_sounding (by decide) fun cdv A outer s H E io hr tk => by
    have hN := sc_is_sounding.nd
    have hu := hu66 hr
    exact (vss_cons (vs_if (vt_not (vt_chain (op_leV (lt64 hu)) sim_ord (op_ltV (lt64 hu)) sim_ord (ve_const pe_int (fun _ => .int _)) (ve_var (pv 1)) (ve_call (ps := ps_length_of) rfl tk (FnOk.mono (k := 1) (ok_length_of T) (by decide)) hr rfl T.g_length_of T.k_length_of T.b_length_of (va_cons (ve_var (pv 0)) (va_nil))))) (vss_one (vs_raise rfl tk (pmk_own0 PySem.F.excBase_ValueError T.x_NoSuch.1 T.g_NoSuch T.x_NoSuch.2.1 (raises_own T.x_NoSuch.2.2.1 T.x_NoSuch.2.2.2) rfl) rfl)) (vss_nil))
    (vss_one (vs_ret (ve_cmp (op_ltV (lt64 hu)) sim_ord (ve_op op_modN sim_mod (ve_var (pv 1)) (ve_op op_addV sim_add (ve_ix (ix_all (lt1 hu)) sim_ixA (ve_var (pv 0)) (ve_const pe_int (fun _ => .int _)) (fun _ _ => rfl)) (ve_ix (ix_all (lt1 hu)) sim_ixA (ve_var (pv 0)) (ve_const pe_int (fun _ => .int _)) (fun _ _ => rfl)))) (ve_ix (ix_all (lt1 hu)) sim_ixA (ve_var (pv 0)) (ve_const pe_int (fun _ => .int _)) (fun _ _ => rfl)) (by rfl)))))
theorem ok_row_of (T : Top K mg) : FnOk P w K mg base (L2.CX P w) 3 T.a_row_of T.fd_row_of ps_row_of (spM K T.cls f_row_of 1) :=
  def_ok (N := N_row_of) T.F_row_of sc_row_of (by decide) fun cdv A outer s H E io hr tk => by
    have hN := sc_row_of.nd
    have hu := hu66 hr
    exact (vss_one (vs_ret (ve_callTy call_tuple_of sim_tuple rfl T.n_tuple (by rfl) (va_cons (ve_new (vn_lc (own := [("place", 1)]) rfl hN (vi_range1 rfl T.n_range (va_cons (ve_call (ps := ps_length_of) rfl tk (FnOk.mono (k := 2) (ok_length_of T) (by decide)) hr rfl T.g_length_of T.k_length_of T.b_length_of (va_cons (ve_var (pv 0)) (va_nil))) (va_nil))) (show BlkOk N_row_of (defScope s_row_of) _ _ from ⟨rfl, by decide +kernel, by decide +kernel, by decide +kernel, by decide +kernel⟩) (fun _ _ _ _ _ => vg_name (pg_name hN rfl (by first | exact .inl rfl | exact .inr rfl))) (fun _ _ _ _ _ => vts_nil) (fun _ _ _ _ _ => ve_callTy call_int1 sim_int rfl T.n_int (by rfl) (va_cons (ve_call (ps := ps_is_sounding) rfl takes_no (FnOk.mono (k := 2) (ok_is_sounding T) (by decide)) hr rfl T.g_is_sounding T.k_is_sounding T.b_is_sounding (va_cons (ve_var (pv 0)) (va_cons (ve_var (pv 1)) (va_nil)))) (va_nil))) (by decide))) (va_nil)))))
theorem ok_nested (T : Top K mg) : FnOk P w K mg base (L2.CX P w) 4 T.a_nested T.fd_nested ps_nested (spM K T.cls f_nested 3) :=
  def_ok (N := N_nested) T.F_nested sc_nested (by decide) fun cdv A outer s H E io hr tk => by
    have hN := sc_nested.nd
    have hu := hu66 hr
    exact (vss_cons (vs_set (ps_set hN (i := 3) rfl (by first | exact .inl rfl | exact .inr rfl) (ve_frz (ve_call (ps := ps_row_of) rfl tk (FnOk.mono (k := 3) (ok_row_of T) (by decide)) hr rfl T.g_row_of T.k_row_of T.b_row_of (va_cons (ve_var (pv 0)) (va_nil))))))
    (vss_cons (vs_set (ps_set hN (i := 4) rfl (by first | exact .inl rfl | exact .inr rfl) (ve_frz (ve_tup (va_nil)))))
    (vss_cons (vs_for (passes_of rfl) rfl (vi_range1 rfl T.n_range (va_cons (ve_var (pv 2)) (va_nil))) (vg_name (pg_name hN rfl (by first | exact .inl rfl | exact .inr rfl))) (vss_one (vs_set (ps_set hN (i := 4) rfl (by first | exact .inl rfl | exact .inr rfl) (ve_frz (ve_op op_addV sim_add (ve_op op_addV sim_add (ve_var (pv 4)) (ve_var (pv 3))) (ve_if (vt_cmp (op_ltV (lt64 hu)) sim_ord (ve_var (pv 5)) (ve_op op_sub sim_sub (ve_var (pv 2)) (ve_const pe_int (fun _ => .int _))) (by rfl)) (ve_op op_mulV sim_mul (ve_tup (va_cons (ve_const pe_int (fun _ => .int _)) (va_nil))) (ve_var (pv 1))) (ve_tup (va_nil)))))))))
    (vss_one (vs_ret (ve_var (pv 4)))))))
theorem ok_nested_length (T : Top K mg) : FnOk P w K mg base (L2.CX P w) 2 T.a_nested_length T.fd_nested_length ps_nested_length (spM K T.cls f_nested_length 3) :=
  def_ok (N := N_nested_length) T.F_nested_length sc_nested_length (by decide) fun cdv A outer s H E io hr tk => by
    have hN := sc_nested_length.nd
    have hu := hu66 hr
    exact (vss_one (vs_ret (ve_op op_addV sim_add (ve_op op_mulV sim_mul (ve_call (ps := ps_length_of) rfl tk (FnOk.mono (k := 1) (ok_length_of T) (by decide)) hr rfl T.g_length_of T.k_length_of T.b_length_of (va_cons (ve_var (pv 0)) (va_nil))) (ve_var (pv 2))) (ve_op op_mulV sim_mul (ve_var (pv 1)) (ve_op op_sub sim_sub (ve_var (pv 2)) (ve_const pe_int (fun _ => .int _)))))))
theorem ok_plan_of (T : Top K mg) : FnOk P w K mg base (L2.CX P w) 4 T.a_plan_of T.fd_plan_of ps_plan_of (spM K T.cls f_plan_of 2) :=
  def_ok (N := N_plan_of) T.F_plan_of sc_plan_of (by decide) fun cdv A outer s H E io hr tk => by
    have hN := sc_plan_of.nd
    have hu := hu66 hr
    exact (vss_cons (vs_set (ps_set hN (i := 2) rfl (by first | exact .inl rfl | exact .inr rfl) (ve_frz (ve_callB cr_len sim_len rfl T.n_len (by rfl) (va_cons (ve_var (pv 0)) (va_nil))))))
    (vss_cons (vs_for (passes_of rfl) rfl (vi_range2 rfl T.n_range (va_cons (ve_const pe_int (fun _ => .int _)) (va_cons (ve_op op_addV sim_add (ve_op op_fdivN sim_fdiv (ve_var (pv 2)) (ve_var (pv 1))) (ve_const pe_int (fun _ => .int _))) (va_nil)))) (vg_name (pg_name hN rfl (by first | exact .inl rfl | exact .inr rfl))) (vss_cons (vs_set (ps_set hN (i := 4) rfl (by first | exact .inl rfl | exact .inr rfl) (ve_frz (ve_op op_sub sim_sub (ve_var (pv 2)) (ve_op op_mulV sim_mul (ve_var (pv 3)) (ve_var (pv 1)))))))
    (vss_one (vs_if (vt_bool (vw_and (vt_cmp (op_eqD (lt64 hu)) sim_eq (ve_op op_modN sim_mod (ve_var (pv 4)) (ve_op op_sub sim_sub (ve_var (pv 1)) (ve_const pe_int (fun _ => .int _)))) (ve_const pe_int (fun _ => .int _)) (by rfl)) (vw_one (vt_cmp (op_eqD (lt64 hu)) sim_eq (ve_call (ps := ps_row_of) rfl tk (FnOk.mono (k := 3) (ok_row_of T) (by decide)) hr rfl T.g_row_of T.k_row_of T.b_row_of (va_cons (ve_tup (va_cons (ve_var (pv 3)) (va_cons (ve_op op_fdivN sim_fdiv (ve_var (pv 4)) (ve_op op_sub sim_sub (ve_var (pv 1)) (ve_const pe_int (fun _ => .int _)))) (va_cons (ve_var (pv 1)) (va_nil))))) (va_nil))) (ve_callTy call_tuple_of sim_tuple rfl T.n_tuple (by rfl) (va_cons (ve_var (pv 0)) (va_nil))) (by rfl))))) (vss_one (vs_ret (ve_tup (va_cons (ve_var (pv 3)) (va_cons (ve_op op_fdivN sim_fdiv (ve_var (pv 4)) (ve_op op_sub sim_sub (ve_var (pv 1)) (ve_const pe_int (fun _ => .int _)))) (va_cons (ve_var (pv 1)) (va_nil))))))) (vss_nil)))))
    (vss_one (vs_ret (ve_const pe_non (fun _ => .non))))))
theorem ok_shrinking (T : Top K mg) : FnOk P w K mg base (L2.CX P w) 1 T.a_shrinking T.fd_shrinking ps_shrinking (spM K T.cls f_shrinking 4) :=
  def_ok (N := N_shrinking) T.F_shrinking sc_shrinking (by decide) fun cdv A outer s H E io hr tk => by
    have hN := sc_shrinking.nd
    have hu := hu66 hr
    exact (vss_cons (vs_setN (ps_set hN (i := 4) rfl (by first | exact .inl rfl | exact .inr rfl) (vn_lst (va_nil))))
    (vss_cons (vs_set (ps_set hN (i := 5) rfl (by first | exact .inl rfl | exact .inr rfl) (ve_frz (ve_var (pv 0)))))
    (vss_cons (vs_while (passes_of rfl) (vt_cmp (op_gtV (lt64 hu)) sim_ord (ve_var (pv 5)) (ve_const pe_int (fun _ => .int _)) (by rfl)) (vss_cons (vs_expr (ve_meth rfl PySem.F.plainAttrs_list PySem.F.slot_list_append PySem.F.type_list_append mt_append sim_append (pv 4) (va_cons (ve_var (pv 5)) (va_nil))))
    (vss_one (vs_aug sim_subI (ps_aug hN (i := 5) rfl (by first | exact .inl rfl | exact .inr rfl) (ve_var (pv 1)) ip_sub)))))
    (vss_cons (vs_set (ps_set hN (i := 6) rfl (by first | exact .inl rfl | exact .inr rfl) (ve_frz (ve_op op_addV sim_add (ve_callB (cr_sumX rfl) sim_sum rfl T.n_sum (by rfl) (va_cons (ve_var (pv 4)) (va_nil))) (ve_op op_mulV sim_mul (ve_var (pv 2)) (ve_op op_sub sim_sub (ve_callB cr_len sim_len rfl T.n_len (by rfl) (va_cons (ve_var (pv 4)) (va_nil))) (ve_const pe_int (fun _ => .int _))))))))
    (vss_one (vs_ret (ve_tup (va_cons (ve_callTy call_tuple_of sim_tuple rfl T.n_tuple (by rfl) (va_cons (ve_var (pv 4)) (va_nil))) (va_cons (ve_op op_modN sim_mod (ve_op op_sub sim_sub (ve_const pe_int (fun _ => .int _)) (ve_var (pv 6))) (ve_var (pv 3))) (va_nil))))))))))
theorem ok_first_rest (T : Top K mg) : FnOk P w K mg base (L2.CX P w) 4 T.a_first_rest T.fd_first_rest ps_first_rest (spM K T.cls f_first_rest 4) :=
  def_ok (N := N_first_rest) T.F_first_rest sc_first_rest (by decide) fun cdv A outer s H E io hr tk => by
    have hN := sc_first_rest.nd
    have hu := hu66 hr
    exact (vss_cons (vs_set (ps_set hN (i := 4) rfl (by first | exact .inl rfl | exact .inr rfl) (ve_frz (ve_call (ps := ps_rests_for) rfl tk (FnOk.mono (k := 3) (ok_rests_for T) (by decide)) hr rfl T.g_rests_for T.k_rests_for T.b_rests_for (va_cons (ve_var (pv 0)) (va_cons (ve_var (pv 1)) (va_cons (ve_var (pv 2)) (va_cons (ve_var (pv 3)) (va_cons (ve_var (pv 2)) (va_nil))))))))))
    (vss_one (vs_ret (ve_if (vt_truth rfl (ve_var (pv 4))) (ve_ix (ix_all (lt1 hu)) sim_ixA (ve_var (pv 4)) (ve_const pe_int (fun _ => .int _)) (fun _ _ => rfl)) (ve_const pe_non (fun _ => .non))))))
theorem ok__law_draw (T : Top K mg) : FnOk P w K mg base (L2.CX P w) 1 T.a__law_draw T.fd__law_draw ps__law_draw (spM K T.cls f__law_draw 2) :=
  def_ok (N := N__law_draw) T.F__law_draw sc__law_draw (by decide) fun cdv A outer s H E io hr tk => by
    have hN := sc__law_draw.nd
    have hu := hu66 hr
    exact (vss_cons (vs_if (vt_cmp (op_ltV (lt64 hu)) sim_ord (ve_ix (ix_all (lt1 hu)) sim_ixA (ve_var (pv 0)) (ve_const pe_int (fun _ => .int _)) (fun _ _ => rfl)) (ve_var (pv 1)) (by rfl)) (vss_cons (vs_set (ps_set hN (i := 2) rfl (by first | exact .inl rfl | exact .inr rfl) (ve_frz (ve_ix (ix_all (lt1 hu)) sim_ixA (ve_var (pv 0)) (ve_const pe_int (fun _ => .int _)) (fun _ _ => rfl)))))
    (vss_cons (vs_setI sim_setA (ps_asg (ve_frz (ve_op op_addV sim_add (ve_var (pv 2)) (ve_const pe_int (fun _ => .int _)))) (pg_sub (pv 0) (ve_const pe_int (fun _ => .int _)) (set_all (lt1 hu)))))
    (vss_cons (vs_set (ps_set hN (i := 3) rfl (by first | exact .inl rfl | exact .inr rfl) (ve_frz (ve_const pe_int (fun _ => .int _)))))
    (vss_cons (vs_if (vt_cmp (op_ltV (lt64 hu)) sim_ord (ve_var (pv 2)) (ve_callB cr_len sim_len rfl T.n_len (by rfl) (va_cons (ve_ix (ix_all (lt1 hu)) sim_ixA (ve_var (pv 0)) (ve_const pe_int (fun _ => .int _)) (fun _ _ => rfl)) (va_nil))) (by rfl)) (vss_one (vs_set (ps_set hN (i := 3) rfl (by first | exact .inl rfl | exact .inr rfl) (ve_frz (ve_ix (ix_all (lt1 hu)) sim_ixA (ve_ix (ix_all (lt1 hu)) sim_ixA (ve_var (pv 0)) (ve_const pe_int (fun _ => .int _)) (fun _ _ => rfl)) (ve_var (pv 2)) (fun _ _ => rfl)))))) (vss_nil))
    (vss_one (vs_if (vt_cmp (op_geV (lt64 hu)) sim_ord (ve_var (pv 3)) (ve_op op_pow sim_pow (ve_const pe_int (fun _ => .int _)) (ve_const pe_int (fun _ => .int _))) (by rfl)) (vss_one (vs_setI sim_setA (ps_asg (ve_frz (ve_var (pv 3))) (pg_sub (pv 0) (ve_const pe_int (fun _ => .int _)) (set_all (lt1 hu)))))) (vss_cons (vs_setI sim_setA (ps_asg (ve_frz (ve_op op_modN sim_mod (ve_callTy call_int1 sim_int rfl T.n_int (by rfl) (va_cons (ve_op op_mulV sim_mul (ve_op op_addV sim_add (ve_op op_addV sim_add (ve_op op_addV sim_add (ve_ix (ix_all (lt1 hu)) sim_ixA (ve_var (pv 0)) (ve_const pe_int (fun _ => .int _)) (fun _ _ => rfl)) (ve_op op_modN sim_mod (ve_callTy call_int1 sim_int rfl T.n_int (by rfl) (va_cons (ve_var (pv 3)) (va_nil))) (ve_const pe_int (fun _ => .int _)))) (ve_var (pv 2))) (ve_const pe_int (fun _ => .int _))) (ve_const pe_int (fun _ => .int _))) (va_nil))) (ve_const pe_int (fun _ => .int _)))) (pg_sub (pv 0) (ve_const pe_int (fun _ => .int _)) (set_all (lt1 hu)))))
    (vss_cons (vs_set (ps_set hN (i := 4) rfl (by first | exact .inl rfl | exact .inr rfl) (ve_frz (ve_op op_modN sim_mod (ve_callTy call_int1 sim_int rfl T.n_int (by rfl) (va_cons (ve_op op_addV sim_add (ve_op op_mulV sim_mul (ve_ix (ix_all (lt1 hu)) sim_ixA (ve_var (pv 0)) (ve_const pe_int (fun _ => .int _)) (fun _ _ => rfl)) (ve_const pe_int (fun _ => .int _))) (ve_const pe_int (fun _ => .int _))) (va_nil))) (ve_const pe_int (fun _ => .int _))))))
    (vss_one (vs_setI sim_setA (ps_asg (ve_frz (ve_op op_addV sim_add (ve_op op_mulV sim_mul (ve_var (pv 4)) (ve_const pe_int (fun _ => .int _))) (ve_op op_modN sim_mod (ve_callTy call_int1 sim_int rfl T.n_int (by rfl) (va_cons (ve_op op_addV sim_add (ve_op op_mulV sim_mul (ve_var (pv 4)) (ve_const pe_int (fun _ => .int _))) (ve_ix (ix_all (lt1 hu)) sim_ixA (ve_var (pv 0)) (ve_const pe_int (fun _ => .int _)) (fun _ _ => rfl))) (va_nil))) (ve_const pe_int (fun _ => .int _))))) (pg_sub (pv 0) (ve_const pe_int (fun _ => .int _)) (set_all (lt1 hu)))))))))))))) (vss_nil))
    (vss_cons (vs_set (ps_set hN (i := 5) rfl (by first | exact .inl rfl | exact .inr rfl) (ve_frz (ve_op op_modN sim_mod (ve_callTy call_int1 sim_int rfl T.n_int (by rfl) (va_cons (ve_ix (ix_all (lt1 hu)) sim_ixA (ve_var (pv 0)) (ve_const pe_int (fun _ => .int _)) (fun _ _ => rfl)) (va_nil))) (ve_var (pv 1))))))
    (vss_cons (vs_setI sim_setA (ps_asg (ve_frz (ve_op op_fdivN sim_fdiv (ve_ix (ix_all (lt1 hu)) sim_ixA (ve_var (pv 0)) (ve_const pe_int (fun _ => .int _)) (fun _ _ => rfl)) (ve_var (pv 1)))) (pg_sub (pv 0) (ve_const pe_int (fun _ => .int _)) (set_all (lt1 hu)))))
    (vss_one (vs_ret (ve_var (pv 5)))))))
theorem ok__law_same (T : Top K mg) : FnOk P w K mg base (L2.CX P w) 1 T.a__law_same T.fd__law_same ps__law_same (spM K T.cls f__law_same 2) :=
  def_ok (N := N__law_same) T.F__law_same sc__law_same (by decide) fun cdv A outer s H E io hr tk => by
    have hN := sc__law_same.nd
    have hu := hu66 hr
    exact (vss_one (vs_ret (ve_and rfl (ve_cmp (op_eqD (lt64 hu)) sim_eq (ve_cmp op_isV sim_is (ve_var (pv 0)) (ve_const pe_bl (fun _ => .bl _)) (by rfl)) (ve_var (pv 1)) (by rfl)) (ve_one (ve_cmp (op_neD (lt64 hu)) sim_ne (ve_cmp op_isV sim_is (ve_var (pv 0)) (ve_const pe_bl (fun _ => .bl _)) (by rfl)) (ve_var (pv 1)) (by rfl))))))
theorem ok__law_melody (T : Top K mg) : FnOk P w K mg base (L2.CX P w) 3 T.a__law_melody T.fd__law_melody ps__law_melody (spM K T.cls f__law_melody 1) :=
  def_ok (N := N__law_melody) T.F__law_melody sc__law_melody (by decide) fun cdv A outer s H E io hr tk => by
    have hN := sc__law_melody.nd
    have hu := hu66 hr
    exact (vss_cons (vs_setN (ps_set hN (i := 1) rfl (by first | exact .inl rfl | exact .inr rfl) (vn_lst (va_nil))))
    (vss_cons (vs_for (passes_of rfl) rfl (vi_range1 rfl T.n_range (va_cons (ve_call (ps := ps__law_draw) rfl tk (FnOk.mono (k := 2) (ok__law_draw T) (by decide)) hr rfl T.g__law_draw T.k__law_draw T.b__law_draw (va_cons (ve_var (pv 0)) (va_cons (ve_const pe_int (fun _ => .int _)) (va_nil)))) (va_nil))) (vg_name (pg_name hN rfl (by first | exact .inl rfl | exact .inr rfl))) (vss_cons (vs_set (ps_set hN (i := 3) rfl (by first | exact .inl rfl | exact .inr rfl) (ve_frz (ve_ix (ix_all (lt1 hu)) sim_ixA (ve_call0 rfl tk (FnOk.mono (k := 2) (ok_all_bases T) (by decide)) hr rfl T.g_all_bases T.k_all_bases T.b_all_bases) (ve_call (ps := ps__law_draw) rfl tk (FnOk.mono (k := 2) (ok__law_draw T) (by decide)) hr rfl T.g__law_draw T.k__law_draw T.b__law_draw (va_cons (ve_var (pv 0)) (va_cons (ve_callB cr_len sim_len rfl T.n_len (by rfl) (va_cons (ve_call0 rfl tk (FnOk.mono (k := 2) (ok_all_bases T) (by decide)) hr rfl T.g_all_bases T.k_all_bases T.b_all_bases) (va_nil))) (va_nil)))) (fun _ _ => rfl)))))
    (vss_one (vs_expr (ve_meth rfl PySem.F.plainAttrs_list PySem.F.slot_list_append PySem.F.type_list_append mt_append sim_append (pv 1) (va_cons (ve_if (vt_cmp (op_gtV (lt64 hu)) sim_ord (ve_call (ps := ps__law_draw) rfl tk (FnOk.mono (k := 2) (ok__law_draw T) (by decide)) hr rfl T.g__law_draw T.k__law_draw T.b__law_draw (va_cons (ve_var (pv 0)) (va_cons (ve_const pe_int (fun _ => .int _)) (va_nil)))) (ve_const pe_int (fun _ => .int _)) (by rfl)) (ve_op op_addV sim_add (ve_var (pv 3)) (ve_ix (ix_all (lt1 hu)) sim_ixA (ve_new (vn_lst (va_cons (ve_const pe_int (fun _ => .int _)) (va_cons (ve_const pe_int (fun _ => .int _)) (va_cons (ve_const pe_int (fun _ => .int _)) (va_cons (ve_const pe_int (fun _ => .int _)) (va_cons (ve_const pe_int (fun _ => .int _)) (va_cons (ve_const pe_int (fun _ => .int _)) (va_nil))))))))) (ve_call (ps := ps__law_draw) rfl tk (FnOk.mono (k := 2) (ok__law_draw T) (by decide)) hr rfl T.g__law_draw T.k__law_draw T.b__law_draw (va_cons (ve_var (pv 0)) (va_cons (ve_const pe_int (fun _ => .int _)) (va_nil)))) (fun _ _ => rfl))) (ve_op op_sub sim_sub (ve_call (ps := ps__law_draw) rfl tk (FnOk.mono (k := 2) (ok__law_draw T) (by decide)) hr rfl T.g__law_draw T.k__law_draw T.b__law_draw (va_cons (ve_var (pv 0)) (va_cons (ve_const pe_int (fun _ => .int _)) (va_nil)))) (ve_const pe_int (fun _ => .int _)))) (va_nil)))))))
    (vss_one (vs_ret (ve_callTy call_tuple_of sim_tuple rfl T.n_tuple (by rfl) (va_cons (ve_var (pv 1)) (va_nil)))))))
theorem ok__law_sung (T : Top K mg) : FnOk P w K mg base (L2.CX P w) 6 T.a__law_sung T.fd__law_sung ps__law_sung (spM K T.cls f__law_sung 2) :=
  def_ok (N := N__law_sung) T.F__law_sung sc__law_sung (by decide) fun cdv A outer s H E io hr tk => by
    have hN := sc__law_sung.nd
    have hu := hu66 hr
    exact (vss_cons (vs_set (ps_set hN (i := 2) rfl (by first | exact .inl rfl | exact .inr rfl) (ve_frz (ve_call (ps := ps_fewest_changes) rfl tk (FnOk.mono (k := 5) (ok_fewest_changes T) (by decide)) hr rfl T.g_fewest_changes T.k_fewest_changes T.b_fewest_changes (va_cons (ve_var (pv 1)) (va_nil))))))
    (vss_cons (vs_if (vt_bool (vw_or (vt_cmp (op_neD (lt64 hu)) sim_ne (ve_cmp op_isV sim_is (ve_var (pv 2)) (ve_const pe_non (fun _ => .non)) (by rfl)) (ve_callB (cr_any rfl) sim_any rfl T.n_any (by rfl) (va_cons (ve_new (vn_lc (own := [("height", 7)]) rfl hN (vi_all rfl (ve_var (pv 1))) (show BlkOk N__law_sung (defScope s__law_sung) _ _ from ⟨rfl, by decide +kernel, by decide +kernel, by decide +kernel, by decide +kernel⟩) (fun _ _ _ _ _ => vg_name (pg_name hN rfl (by first | exact .inl rfl | exact .inr rfl))) (fun _ _ _ _ _ => vts_nil) (fun _ _ _ _ _ => ve_cmp op_isNotV sim_isNot (ve_call (ps := ps_is_in_hand) rfl takes_no (FnOk.mono (k := 5) (ok_is_in_hand T) (by decide)) hr rfl T.g_is_in_hand T.k_is_in_hand T.b_is_in_hand (va_cons (ve_var (pv 7)) (va_nil))) (ve_const pe_bl (fun _ => .bl _)) (by rfl)) (by decide))) (va_nil))) (by rfl)) (vw_one (vt_cmp (op_neD (lt64 hu)) sim_ne (ve_cmp op_isV sim_is (ve_call (ps := ps_sung) rfl tk (FnOk.mono (k := 5) (ok_sung T) (by decide)) hr rfl T.g_sung T.k_sung T.b_sung (va_cons (ve_var (pv 1)) (va_nil))) (ve_const pe_non (fun _ => .non)) (by rfl)) (ve_cmp op_isV sim_is (ve_var (pv 2)) (ve_const pe_non (fun _ => .non)) (by rfl)) (by rfl))))) (vss_one (vs_ret (ve_const pe_bl (fun _ => .bl _)))) (vss_nil))
    (vss_cons (vs_if (vt_cmp op_isV sim_is (ve_var (pv 2)) (ve_const pe_non (fun _ => .non)) (by rfl)) (vss_one (vs_ret (ve_const pe_bl (fun _ => .bl _)))) (vss_nil))
    (vss_cons (vs_asg (ps_asg (ve_frz (ve_var (pv 2))) (vg_tup rfl rfl (vgs_cons (vg_name (pg_name hN rfl (by first | exact .inl rfl | exact .inr rfl))) (vgs_cons (vg_name (pg_name hN rfl (by first | exact .inl rfl | exact .inr rfl))) (vgs_nil))))))
    (vss_cons (vs_if (vt_bool (vw_or (vt_cmp op_isNotV sim_isNot (ve_call (ps := ps_judge_sung) rfl tk (FnOk.mono (k := 5) (ok_judge_sung T) (by decide)) hr rfl T.g_judge_sung T.k_judge_sung T.b_judge_sung (va_cons (ve_var (pv 1)) (va_cons (ve_var (pv 4)) (va_nil)))) (ve_const pe_non (fun _ => .non)) (by rfl)) (vw_or (vt_cmp (op_neD (lt64 hu)) sim_ne (ve_callB cr_len sim_len rfl T.n_len (by rfl) (va_cons (ve_call (ps := ps_changes_at) rfl tk (FnOk.mono (k := 5) (ok_changes_at T) (by decide)) hr rfl T.g_changes_at T.k_changes_at T.b_changes_at (va_cons (ve_var (pv 4)) (va_nil))) (va_nil))) (ve_var (pv 3)) (by rfl)) (vw_one (vt_cmp (op_neD (lt64 hu)) sim_ne (ve_call (ps := ps_sung) rfl tk (FnOk.mono (k := 5) (ok_sung T) (by decide)) hr rfl T.g_sung T.k_sung T.b_sung (va_cons (ve_var (pv 1)) (va_nil))) (ve_callTy call_tuple_of sim_tuple rfl T.n_tuple (by rfl) (va_cons (ve_new (vn_lc (own := [("k", 5)]) rfl hN (vi_range1 rfl T.n_range (va_cons (ve_callB cr_len sim_len rfl T.n_len (by rfl) (va_cons (ve_var (pv 1)) (va_nil))) (va_nil))) (show BlkOk N__law_sung (defScope s__law_sung) _ _ from ⟨rfl, by decide +kernel, by decide +kernel, by decide +kernel, by decide +kernel⟩) (fun _ _ _ _ _ => vg_name (pg_name hN rfl (by first | exact .inl rfl | exact .inr rfl))) (fun _ _ _ _ _ => vts_nil) (fun _ _ _ _ _ => ve_call (ps := ps_syllable_of) rfl takes_no (FnOk.mono (k := 5) (ok_syllable_of T) (by decide)) hr rfl T.g_syllable_of T.k_syllable_of T.b_syllable_of (va_cons (ve_ix (ix_all (lt1 hu)) sim_ixA (ve_var (pv 4)) (ve_var (pv 5)) (fun _ _ => rfl)) (va_cons (ve_ix (ix_all (lt1 hu)) sim_ixA (ve_var (pv 1)) (ve_var (pv 5)) (fun _ _ => rfl)) (va_nil)))) (by decide))) (va_nil))) (by rfl)))))) (vss_one (vs_ret (ve_const pe_bl (fun _ => .bl _)))) (vss_nil))
    (vss_cons (vs_for (passes_of rfl) rfl (vi_range1 rfl T.n_range (va_cons (ve_const pe_int (fun _ => .int _)) (va_nil))) (vg_name (pg_name hN rfl (by first | exact .inl rfl | exact .inr rfl))) (vss_cons (vs_set (ps_set hN (i := 6) rfl (by first | exact .inl rfl | exact .inr rfl) (ve_frz (ve_tup (va_nil)))))
    (vss_cons (vs_for (passes_of rfl) rfl (vi_all rfl (ve_var (pv 1))) (vg_name (pg_name hN rfl (by first | exact .inl rfl | exact .inr rfl))) (vss_cons (vs_set (ps_set hN (i := 8) rfl (by first | exact .inl rfl | exact .inr rfl) (ve_frz (ve_call (ps := ps_names_of) rfl tk (FnOk.mono (k := 5) (ok_names_of T) (by decide)) hr rfl T.g_names_of T.k_names_of T.b_names_of (va_cons (ve_var (pv 7)) (va_nil))))))
    (vss_one (vs_set (ps_set hN (i := 6) rfl (by first | exact .inl rfl | exact .inr rfl) (ve_frz (ve_op op_addV sim_add (ve_var (pv 6)) (ve_tup (va_cons (ve_ix (ix_all (lt1 hu)) sim_ixA (ve_ix (ix_all (lt1 hu)) sim_ixA (ve_var (pv 8)) (ve_call (ps := ps__law_draw) rfl tk (FnOk.mono (k := 5) (ok__law_draw T) (by decide)) hr rfl T.g__law_draw T.k__law_draw T.b__law_draw (va_cons (ve_var (pv 0)) (va_cons (ve_callB cr_len sim_len rfl T.n_len (by rfl) (va_cons (ve_var (pv 8)) (va_nil))) (va_nil)))) (fun _ _ => rfl)) (ve_const pe_int (fun _ => .int _)) (fun _ _ => rfl)) (va_nil))))))))))
    (vss_one (vs_if (vt_bool (vw_or (vt_cmp op_isNotV sim_isNot (ve_call (ps := ps_judge_sung) rfl tk (FnOk.mono (k := 5) (ok_judge_sung T) (by decide)) hr rfl T.g_judge_sung T.k_judge_sung T.b_judge_sung (va_cons (ve_var (pv 1)) (va_cons (ve_var (pv 6)) (va_nil)))) (ve_const pe_non (fun _ => .non)) (by rfl)) (vw_or (vt_cmp (op_ltV (lt64 hu)) sim_ord (ve_callB cr_len sim_len rfl T.n_len (by rfl) (va_cons (ve_call (ps := ps_changes_at) rfl tk (FnOk.mono (k := 5) (ok_changes_at T) (by decide)) hr rfl T.g_changes_at T.k_changes_at T.b_changes_at (va_cons (ve_var (pv 6)) (va_nil))) (va_nil))) (ve_var (pv 3)) (by rfl)) (vw_one (vt_bool (vw_and (vt_cmp (op_eqD (lt64 hu)) sim_eq (ve_callB cr_len sim_len rfl T.n_len (by rfl) (va_cons (ve_call (ps := ps_changes_at) rfl tk (FnOk.mono (k := 5) (ok_changes_at T) (by decide)) hr rfl T.g_changes_at T.k_changes_at T.b_changes_at (va_cons (ve_var (pv 6)) (va_nil))) (va_nil))) (ve_var (pv 3)) (by rfl)) (vw_one (vt_cmp (op_ltV (lt64 hu)) sim_ord (ve_var (pv 6)) (ve_var (pv 4)) (by rfl))))))))) (vss_one (vs_ret (ve_const pe_bl (fun _ => .bl _)))) (vss_nil))))))
    (vss_cons (vs_if (vt_bool (vw_or (vt_cmp (op_neD (lt64 hu)) sim_ne (ve_call (ps := ps_judge_sung) rfl tk (FnOk.mono (k := 5) (ok_judge_sung T) (by decide)) hr rfl T.g_judge_sung T.k_judge_sung T.b_judge_sung (va_cons (ve_var (pv 1)) (va_cons (ve_new (vn_callTy call_list_of sim_list rfl T.n_list (by rfl) (va_cons (ve_var (pv 4)) (va_nil)))) (va_nil)))) (ve_const pe_int (fun _ => .int _)) (by rfl)) (vw_or (vt_cmp (op_neD (lt64 hu)) sim_ne (ve_call (ps := ps_judge_sung) rfl tk (FnOk.mono (k := 5) (ok_judge_sung T) (by decide)) hr rfl T.g_judge_sung T.k_judge_sung T.b_judge_sung (va_cons (ve_var (pv 1)) (va_cons (ve_op op_addV sim_add (ve_var (pv 4)) (ve_tup (va_cons (ve_const pe_int (fun _ => .int _)) (va_nil)))) (va_nil)))) (ve_callB cr_len sim_len rfl T.n_len (by rfl) (va_cons (ve_var (pv 1)) (va_nil))) (by rfl)) (vw_one (vt_bool (vw_and (vt_cmp (op_gtV (lt64 hu)) sim_ord (ve_callB cr_len sim_len rfl T.n_len (by rfl) (va_cons (ve_var (pv 4)) (va_nil))) (ve_const pe_int (fun _ => .int _)) (by rfl)) (vw_one (vt_cmp (op_neD (lt64 hu)) sim_ne (ve_call (ps := ps_judge_sung) rfl tk (FnOk.mono (k := 5) (ok_judge_sung T) (by decide)) hr rfl T.g_judge_sung T.k_judge_sung T.b_judge_sung (va_cons (ve_var (pv 1)) (va_cons (ve_slice sl_V sim_sl (ve_var (pv 4)) (vo_some (ve_const pe_int (fun _ => .int _))) (vo_none)) (va_nil)))) (ve_op op_sub sim_sub (ve_callB cr_len sim_len rfl T.n_len (by rfl) (va_cons (ve_var (pv 1)) (va_nil))) (ve_const pe_int (fun _ => .int _))) (by rfl))))))))) (vss_one (vs_ret (ve_const pe_bl (fun _ => .bl _)))) (vss_nil))
    (vss_cons (vs_if (vt_cmp (op_gtV (lt64 hu)) sim_ord (ve_callB cr_len sim_len rfl T.n_len (by rfl) (va_cons (ve_var (pv 4)) (va_nil))) (ve_const pe_int (fun _ => .int _)) (by rfl)) (vss_cons (vs_set (ps_set hN (i := 9) rfl (by first | exact .inl rfl | exact .inr rfl) (ve_frz (ve_call (ps := ps__law_draw) rfl tk (FnOk.mono (k := 5) (ok__law_draw T) (by decide)) hr rfl T.g__law_draw T.k__law_draw T.b__law_draw (va_cons (ve_var (pv 0)) (va_cons (ve_callB cr_len sim_len rfl T.n_len (by rfl) (va_cons (ve_var (pv 4)) (va_nil))) (va_nil)))))))
    (vss_cons (vs_set (ps_set hN (i := 10) rfl (by first | exact .inl rfl | exact .inr rfl) (ve_frz (ve_op op_addV sim_add (ve_op op_addV sim_add (ve_slice sl_V sim_sl (ve_var (pv 4)) (vo_none) (vo_some (ve_var (pv 9)))) (ve_tup (va_cons (ve_op op_addV sim_add (ve_ix (ix_all (lt1 hu)) sim_ixA (ve_var (pv 4)) (ve_var (pv 9)) (fun _ _ => rfl)) (ve_const pe_int (fun _ => .int _))) (va_nil)))) (ve_slice sl_V sim_sl (ve_var (pv 4)) (vo_some (ve_op op_addV sim_add (ve_var (pv 9)) (ve_const pe_int (fun _ => .int _)))) (vo_none))))))
    (vss_one (vs_if (vt_cmp (op_neD (lt64 hu)) sim_ne (ve_call (ps := ps_judge_sung) rfl tk (FnOk.mono (k := 5) (ok_judge_sung T) (by decide)) hr rfl T.g_judge_sung T.k_judge_sung T.b_judge_sung (va_cons (ve_var (pv 1)) (va_cons (ve_var (pv 10)) (va_nil)))) (ve_if (vt_bool (vw_or (vt_cmp op_isV sim_is (ve_call (ps := ps_syllable_of) rfl tk (FnOk.mono (k := 5) (ok_syllable_of T) (by decide)) hr rfl T.g_syllable_of T.k_syllable_of T.b_syllable_of (va_cons (ve_op op_addV sim_add (ve_ix (ix_all (lt1 hu)) sim_ixA (ve_var (pv 4)) (ve_var (pv 9)) (fun _ _ => rfl)) (ve_const pe_int (fun _ => .int _))) (va_cons (ve_ix (ix_all (lt1 hu)) sim_ixA (ve_var (pv 1)) (ve_var (pv 9)) (fun _ _ => rfl)) (va_nil)))) (ve_const pe_non (fun _ => .non)) (by rfl)) (vw_one (vt_cmp (op_notInA hu) sim_notInA (ve_op op_addV sim_add (ve_ix (ix_all (lt1 hu)) sim_ixA (ve_var (pv 4)) (ve_var (pv 9)) (fun _ _ => rfl)) (ve_const pe_int (fun _ => .int _))) (ve_call0 rfl tk (FnOk.mono (k := 5) (ok_all_bases T) (by decide)) hr rfl T.g_all_bases T.k_all_bases T.b_all_bases) (by rfl))))) (ve_var (pv 9)) (ve_const pe_non (fun _ => .non))) (by rfl)) (vss_one (vs_ret (ve_const pe_bl (fun _ => .bl _)))) (vss_nil))))) (vss_nil))
    (vss_one (vs_ret (ve_const pe_bl (fun _ => .bl _))))))))))))
theorem ok__law_hand (T : Top K mg) : FnOk P w K mg base (L2.CX P w) 4 T.a__law_hand T.fd__law_hand ps__law_hand (spM K T.cls f__law_hand 1) :=
  def_ok (N := N__law_hand) T.F__law_hand sc__law_hand (by decide) fun cdv A outer s H E io hr tk => by
    have hN := sc__law_hand.nd
    have hu := hu66 hr
    exact (vss_cons (vs_set (ps_set hN (i := 1) rfl (by first | exact .inl rfl | exact .inr rfl) (ve_frz (ve_call0 rfl tk (FnOk.mono (k := 3) (ok_all_bases T) (by decide)) hr rfl T.g_all_bases T.k_all_bases T.b_all_bases))))
    (vss_cons (vs_if (vt_bool (vw_or (vt_cmp (op_neD (lt64 hu)) sim_ne (ve_var (pv 1)) (ve_new (vn_lc (own := [("base", 3)]) rfl hN (vi_range2 rfl T.n_range (va_cons (ve_op op_sub sim_sub (ve_const pe_int (fun _ => .int _)) (ve_const pe_int (fun _ => .int _))) (va_cons (ve_const pe_int (fun _ => .int _)) (va_nil)))) (show BlkOk N__law_hand (defScope s__law_hand) _ _ from ⟨rfl, by decide +kernel, by decide +kernel, by decide +kernel, by decide +kernel⟩) (fun _ _ _ _ _ => vg_name (pg_name hN rfl (by first | exact .inl rfl | exact .inr rfl))) (fun _ _ _ _ _ => vts_one (vt_cmp (op_inA hu) sim_inA (ve_op op_modN sim_mod (ve_callTy call_int1 sim_int rfl T.n_int (by rfl) (va_cons (ve_var (pv 3)) (va_nil))) (ve_const pe_int (fun _ => .int _))) (ve_new (vn_lst (va_cons (ve_const pe_int (fun _ => .int _)) (va_cons (ve_const pe_int (fun _ => .int _)) (va_cons (ve_const pe_int (fun _ => .int _)) (va_nil)))))) (by rfl))) (fun _ _ _ _ _ => ve_var (pv 3)) (by decide))) (by rfl)) (vw_one (vt_cmp (op_neD (lt64 hu)) sim_ne (ve_var (pv 1)) (ve_call (ps := ps_bases_between) rfl tk (FnOk.mono (k := 3) (ok_bases_between T) (by decide)) hr rfl T.g_bases_between T.k_bases_between T.b_bases_between (va_cons (ve_op op_sub sim_sub (ve_const pe_int (fun _ => .int _)) (ve_const pe_int (fun _ => .int _))) (va_cons (ve_const pe_int (fun _ => .int _)) (va_nil)))) (by rfl))))) (vss_one (vs_ret (ve_const pe_bl (fun _ => .bl _)))) (vss_nil))
    (vss_cons (vs_set (ps_set hN (i := 2) rfl (by first | exact .inl rfl | exact .inr rfl) (ve_frz (ve_tup (va_cons (ve_const pe_str (fun _ => .str _)) (va_cons (ve_const pe_str (fun _ => .str _)) (va_cons (ve_const pe_str (fun _ => .str _)) (va_cons (ve_const pe_str (fun _ => .str _)) (va_cons (ve_const pe_str (fun _ => .str _)) (va_cons (ve_const pe_str (fun _ => .str _)) (va_nil)))))))))))
    (vss_cons (vs_for (passes_of rfl) rfl (vi_all rfl (ve_var (pv 1))) (vg_name (pg_name hN rfl (by first | exact .inl rfl | exact .inr rfl))) (vss_cons (vs_set (ps_set hN (i := 4) rfl (by first | exact .inl rfl | exact .inr rfl) (ve_frz (ve_call (ps := ps_tones_of) rfl tk (FnOk.mono (k := 3) (ok_tones_of T) (by decide)) hr rfl T.g_tones_of T.k_tones_of T.b_tones_of (va_cons (ve_var (pv 3)) (va_nil))))))
    (vss_cons (vs_if (vt_bool (vw_or (vt_cmp (op_neD (lt64 hu)) sim_ne (ve_var (pv 4)) (ve_callTy call_tuple_of sim_tuple rfl T.n_tuple (by rfl) (va_cons (ve_new (vn_lc (own := [("step", 11)]) rfl hN (vi_all rfl (ve_new (vn_lst (va_cons (ve_const pe_int (fun _ => .int _)) (va_cons (ve_const pe_int (fun _ => .int _)) (va_cons (ve_const pe_int (fun _ => .int _)) (va_cons (ve_const pe_int (fun _ => .int _)) (va_cons (ve_const pe_int (fun _ => .int _)) (va_cons (ve_const pe_int (fun _ => .int _)) (va_nil)))))))))) (show BlkOk N__law_hand (defScope s__law_hand) _ _ from ⟨rfl, by decide +kernel, by decide +kernel, by decide +kernel, by decide +kernel⟩) (fun _ _ _ _ _ => vg_name (pg_name hN rfl (by first | exact .inl rfl | exact .inr rfl))) (fun _ _ _ _ _ => vts_nil) (fun _ _ _ _ _ => ve_op op_addV sim_add (ve_var (pv 3)) (ve_var (pv 11))) (by decide))) (va_nil))) (by rfl)) (vw_one (vt_cmp (op_neD (lt64 hu)) sim_ne (ve_callTy call_tuple_of sim_tuple rfl T.n_tuple (by rfl) (va_cons (ve_new (vn_lc (own := [("tone", 5)]) rfl hN (vi_all rfl (ve_var (pv 4))) (show BlkOk N__law_hand (defScope s__law_hand) _ _ from ⟨rfl, by decide +kernel, by decide +kernel, by decide +kernel, by decide +kernel⟩) (fun _ _ _ _ _ => vg_name (pg_name hN rfl (by first | exact .inl rfl | exact .inr rfl))) (fun _ _ _ _ _ => vts_nil) (fun _ _ _ _ _ => ve_call (ps := ps_syllable_of) rfl takes_no (FnOk.mono (k := 3) (ok_syllable_of T) (by decide)) hr rfl T.g_syllable_of T.k_syllable_of T.b_syllable_of (va_cons (ve_var (pv 3)) (va_cons (ve_var (pv 5)) (va_nil)))) (by decide))) (va_nil))) (ve_var (pv 2)) (by rfl))))) (vss_one (vs_ret (ve_const pe_bl (fun _ => .bl _)))) (vss_nil))
    (vss_cons (vs_if (vt_bool (vw_or (vt_cmp (op_neD (lt64 hu)) sim_ne (ve_call (ps := ps_heights_sung) rfl tk (FnOk.mono (k := 3) (ok_heights_sung T) (by decide)) hr rfl T.g_heights_sung T.k_heights_sung T.b_heights_sung (va_cons (ve_var (pv 3)) (va_cons (ve_var (pv 2)) (va_nil)))) (ve_var (pv 4)) (by rfl)) (vw_one (vt_cmp (op_neD (lt64 hu)) sim_ne (ve_call (ps := ps_kind_of) rfl tk (FnOk.mono (k := 3) (ok_kind_of T) (by decide)) hr rfl T.g_kind_of T.k_kind_of T.b_kind_of (va_cons (ve_var (pv 3)) (va_nil))) (ve_call (ps := ps_kind_of) rfl tk (FnOk.mono (k := 3) (ok_kind_of T) (by decide)) hr rfl T.g_kind_of T.k_kind_of T.b_kind_of (va_cons (ve_op op_addV sim_add (ve_var (pv 3)) (ve_const pe_int (fun _ => .int _))) (va_nil))) (by rfl))))) (vss_one (vs_ret (ve_const pe_bl (fun _ => .bl _)))) (vss_nil))
    (vss_one (vs_for (passes_of rfl) rfl (vi_range2 rfl T.n_range (va_cons (ve_op op_sub sim_sub (ve_const pe_int (fun _ => .int _)) (ve_const pe_int (fun _ => .int _))) (va_cons (ve_const pe_int (fun _ => .int _)) (va_nil)))) (vg_name (pg_name hN rfl (by first | exact .inl rfl | exact .inr rfl))) (vss_one (vs_if (vt_bool (vw_or (vt_cmp (op_neD (lt64 hu)) sim_ne (ve_cmp op_isV sim_is (ve_call (ps := ps_syllable_of) rfl tk (FnOk.mono (k := 3) (ok_syllable_of T) (by decide)) hr rfl T.g_syllable_of T.k_syllable_of T.b_syllable_of (va_cons (ve_var (pv 3)) (va_cons (ve_var (pv 5)) (va_nil)))) (ve_const pe_non (fun _ => .non)) (by rfl)) (ve_cmp (op_notInA hu) sim_notInA (ve_var (pv 5)) (ve_var (pv 4)) (by rfl)) (by rfl)) (vw_one (vt_cmp (op_neD (lt64 hu)) sim_ne (ve_cmp (op_inA hu) sim_inA (ve_tup (va_cons (ve_var (pv 3)) (va_cons (ve_call (ps := ps_syllable_of) rfl tk (FnOk.mono (k := 3) (ok_syllable_of T) (by decide)) hr rfl T.g_syllable_of T.k_syllable_of T.b_syllable_of (va_cons (ve_var (pv 3)) (va_cons (ve_var (pv 5)) (va_nil)))) (va_nil)))) (ve_call (ps := ps_names_of) rfl tk (FnOk.mono (k := 3) (ok_names_of T) (by decide)) hr rfl T.g_names_of T.k_names_of T.b_names_of (va_cons (ve_var (pv 5)) (va_nil))) (by rfl)) (ve_cmp (op_inA hu) sim_inA (ve_var (pv 5)) (ve_var (pv 4)) (by rfl)) (by rfl))))) (vss_one (vs_ret (ve_const pe_bl (fun _ => .bl _)))) (vss_nil)))))))))
    (vss_cons (vs_set (ps_set hN (i := 6) rfl (by first | exact .inl rfl | exact .inr rfl) (ve_frz (ve_ix (ix_all (lt1 hu)) sim_ixA (ve_var (pv 1)) (ve_call (ps := ps__law_draw) rfl tk (FnOk.mono (k := 3) (ok__law_draw T) (by decide)) hr rfl T.g__law_draw T.k__law_draw T.b__law_draw (va_cons (ve_var (pv 0)) (va_cons (ve_callB cr_len sim_len rfl T.n_len (by rfl) (va_cons (ve_var (pv 1)) (va_nil))) (va_nil)))) (fun _ _ => rfl)))))
    (vss_cons (vs_set (ps_set hN (i := 7) rfl (by first | exact .inl rfl | exact .inr rfl) (ve_frz (ve_ix (ix_all (lt1 hu)) sim_ixA (ve_var (pv 1)) (ve_call (ps := ps__law_draw) rfl tk (FnOk.mono (k := 3) (ok__law_draw T) (by decide)) hr rfl T.g__law_draw T.k__law_draw T.b__law_draw (va_cons (ve_var (pv 0)) (va_cons (ve_callB cr_len sim_len rfl T.n_len (by rfl) (va_cons (ve_var (pv 1)) (va_nil))) (va_nil)))) (fun _ _ => rfl)))))
    (vss_cons (vs_if (vt_bool (vw_or (vt_cmp (op_neD (lt64 hu)) sim_ne (ve_call (ps := ps_shared_by) rfl tk (FnOk.mono (k := 3) (ok_shared_by T) (by decide)) hr rfl T.g_shared_by T.k_shared_by T.b_shared_by (va_cons (ve_var (pv 6)) (va_cons (ve_var (pv 7)) (va_nil)))) (ve_callTy call_tuple_of sim_tuple rfl T.n_tuple (by rfl) (va_cons (ve_new (vn_lc (own := [("tone", 5)]) rfl hN (vi_all rfl (ve_call (ps := ps_tones_of) rfl tk (FnOk.mono (k := 3) (ok_tones_of T) (by decide)) hr rfl T.g_tones_of T.k_tones_of T.b_tones_of (va_cons (ve_var (pv 6)) (va_nil)))) (show BlkOk N__law_hand (defScope s__law_hand) _ _ from ⟨rfl, by decide +kernel, by decide +kernel, by decide +kernel, by decide +kernel⟩) (fun _ _ _ _ _ => vg_name (pg_name hN rfl (by first | exact .inl rfl | exact .inr rfl))) (fun _ _ _ _ _ => vts_one (vt_cmp (op_inA hu) sim_inA (ve_var (pv 5)) (ve_call (ps := ps_tones_of) rfl takes_no (FnOk.mono (k := 3) (ok_tones_of T) (by decide)) hr rfl T.g_tones_of T.k_tones_of T.b_tones_of (va_cons (ve_var (pv 7)) (va_nil))) (by rfl))) (fun _ _ _ _ _ => ve_var (pv 5)) (by decide))) (va_nil))) (by rfl)) (vw_one (vt_cmp (op_neD (lt64 hu)) sim_ne (ve_call (ps := ps_shared_by) rfl tk (FnOk.mono (k := 3) (ok_shared_by T) (by decide)) hr rfl T.g_shared_by T.k_shared_by T.b_shared_by (va_cons (ve_var (pv 7)) (va_cons (ve_var (pv 6)) (va_nil)))) (ve_call (ps := ps_shared_by) rfl tk (FnOk.mono (k := 3) (ok_shared_by T) (by decide)) hr rfl T.g_shared_by T.k_shared_by T.b_shared_by (va_cons (ve_var (pv 6)) (va_cons (ve_var (pv 7)) (va_nil)))) (by rfl))))) (vss_one (vs_ret (ve_const pe_bl (fun _ => .bl _)))) (vss_nil))
    (vss_cons (vs_set (ps_set hN (i := 8) rfl (by first | exact .inl rfl | exact .inr rfl) (ve_frz (ve_callTy call_tuple_of sim_tuple rfl T.n_tuple (by rfl) (va_cons (ve_new (vn_lc (own := [("k", 9)]) rfl hN (vi_range1 rfl T.n_range (va_cons (ve_call (ps := ps__law_draw) rfl tk (FnOk.mono (k := 3) (ok__law_draw T) (by decide)) hr rfl T.g__law_draw T.k__law_draw T.b__law_draw (va_cons (ve_var (pv 0)) (va_cons (ve_const pe_int (fun _ => .int _)) (va_nil)))) (va_nil))) (show BlkOk N__law_hand (defScope s__law_hand) _ _ from ⟨rfl, by decide +kernel, by decide +kernel, by decide +kernel, by decide +kernel⟩) (fun _ _ _ _ _ => vg_name (pg_name hN rfl (by first | exact .inl rfl | exact .inr rfl))) (fun _ _ _ _ _ => vts_nil) (fun _ _ _ _ _ => ve_ix (ix_all (lt1 hu)) sim_ixA (ve_var (pv 2)) (ve_call (ps := ps__law_draw) rfl takes_no (FnOk.mono (k := 3) (ok__law_draw T) (by decide)) hr rfl T.g__law_draw T.k__law_draw T.b__law_draw (va_cons (ve_var (pv 0)) (va_cons (ve_const pe_int (fun _ => .int _)) (va_nil)))) (fun _ _ => rfl)) (by decide))) (va_nil))))))
    (vss_one (vs_ret (ve_and rfl (ve_cmp op_isV sim_is (ve_call (ps := ps_heights_sung) rfl tk (FnOk.mono (k := 3) (ok_heights_sung T) (by decide)) hr rfl T.g_heights_sung T.k_heights_sung T.b_heights_sung (va_cons (ve_var (pv 6)) (va_cons (ve_op op_addV sim_add (ve_var (pv 8)) (ve_tup (va_cons (ve_const pe_str (fun _ => .str _)) (va_nil)))) (va_nil)))) (ve_const pe_non (fun _ => .non)) (by rfl)) (ve_one (ve_cmp (op_eqD (lt64 hu)) sim_eq (ve_callTy call_tuple_of sim_tuple rfl T.n_tuple (by rfl) (va_cons (ve_new (vn_lc (own := [("height", 10)]) rfl hN (vi_all rfl (ve_call (ps := ps_heights_sung) rfl tk (FnOk.mono (k := 3) (ok_heights_sung T) (by decide)) hr rfl T.g_heights_sung T.k_heights_sung T.b_heights_sung (va_cons (ve_var (pv 6)) (va_cons (ve_var (pv 8)) (va_nil))))) (show BlkOk N__law_hand (defScope s__law_hand) _ _ from ⟨rfl, by decide +kernel, by decide +kernel, by decide +kernel, by decide +kernel⟩) (fun _ _ _ _ _ => vg_name (pg_name hN rfl (by first | exact .inl rfl | exact .inr rfl))) (fun _ _ _ _ _ => vts_nil) (fun _ _ _ _ _ => ve_call (ps := ps_syllable_of) rfl takes_no (FnOk.mono (k := 3) (ok_syllable_of T) (by decide)) hr rfl T.g_syllable_of T.k_syllable_of T.b_syllable_of (va_cons (ve_var (pv 6)) (va_cons (ve_var (pv 10)) (va_nil)))) (by decide))) (va_nil))) (ve_var (pv 8)) (by rfl))))))))))))))
theorem ok__law_sounding (T : Top K mg) : FnOk P w K mg base (L2.CX P w) 3 T.a__law_sounding T.fd__law_sounding ps__law_sounding (spM K T.cls f__law_sounding 2) :=
  def_ok (N := N__law_sounding) T.F__law_sounding sc__law_sounding (by decide) fun cdv A outer s H E io hr tk => by
    have hN := sc__law_sounding.nd
    have hu := hu66 hr
    exact (vss_one (vs_try (hx := hx_NoSuch) rfl rfl rfl ⟨rfl, by decide, .inl T.g_NoSuch⟩ tk (T.m_NoSuch (fun _ _ h => h)) (fun W2 pn xe tk2 hp2 => vss_one (vs_ret (ve_call (ps := ps_is_sounding) rfl tk2 (FnOk.mono (k := 2) (ok_is_sounding T) (by decide)) hr rfl T.g_is_sounding T.k_is_sounding T.b_is_sounding (va_cons (ve_var (pv 0)) (va_cons (ve_var (pv 1)) (va_nil)))))) (fun _ _ _ => vss_one (vs_ret (ve_const pe_non (fun _ => .non))))))
theorem ok__law_planned (T : Top K mg) : FnOk P w K mg base (L2.CX P w) 5 T.a__law_planned T.fd__law_planned ps__law_planned (spM K T.cls f__law_planned 1) :=
  def_ok (N := N__law_planned) T.F__law_planned sc__law_planned (by decide) fun cdv A outer s H E io hr tk => by
    have hN := sc__law_planned.nd
    have hu := hu66 hr
    exact (vss_cons (vs_set (ps_set hN (i := 1) rfl (by first | exact .inl rfl | exact .inr rfl) (ve_frz (ve_op op_addV sim_add (ve_const pe_int (fun _ => .int _)) (ve_call (ps := ps__law_draw) rfl tk (FnOk.mono (k := 4) (ok__law_draw T) (by decide)) hr rfl T.g__law_draw T.k__law_draw T.b__law_draw (va_cons (ve_var (pv 0)) (va_cons (ve_const pe_int (fun _ => .int _)) (va_nil))))))))
    (vss_cons (vs_set (ps_set hN (i := 2) rfl (by first | exact .inl rfl | exact .inr rfl) (ve_frz (ve_call (ps := ps__law_draw) rfl tk (FnOk.mono (k := 4) (ok__law_draw T) (by decide)) hr rfl T.g__law_draw T.k__law_draw T.b__law_draw (va_cons (ve_var (pv 0)) (va_cons (ve_const pe_int (fun _ => .int _)) (va_nil)))))))
    (vss_cons (vs_set (ps_set hN (i := 3) rfl (by first | exact .inl rfl | exact .inr rfl) (ve_frz (ve_op op_addV sim_add (ve_const pe_int (fun _ => .int _)) (ve_call (ps := ps__law_draw) rfl tk (FnOk.mono (k := 4) (ok__law_draw T) (by decide)) hr rfl T.g__law_draw T.k__law_draw T.b__law_draw (va_cons (ve_var (pv 0)) (va_cons (ve_const pe_int (fun _ => .int _)) (va_nil))))))))
    (vss_cons (vs_set (ps_set hN (i := 4) rfl (by first | exact .inl rfl | exact .inr rfl) (ve_frz (ve_tup (va_cons (ve_var (pv 1)) (va_cons (ve_var (pv 2)) (va_cons (ve_var (pv 3)) (va_nil))))))))
    (vss_cons (vs_set (ps_set hN (i := 5) rfl (by first | exact .inl rfl | exact .inr rfl) (ve_frz (ve_op op_addV sim_add (ve_const pe_int (fun _ => .int _)) (ve_call (ps := ps__law_draw) rfl tk (FnOk.mono (k := 4) (ok__law_draw T) (by decide)) hr rfl T.g__law_draw T.k__law_draw T.b__law_draw (va_cons (ve_var (pv 0)) (va_cons (ve_const pe_int (fun _ => .int _)) (va_nil))))))))
    (vss_cons (vs_set (ps_set hN (i := 6) rfl (by first | exact .inl rfl | exact .inr rfl) (ve_frz (ve_call (ps := ps__law_draw) rfl tk (FnOk.mono (k := 4) (ok__law_draw T) (by decide)) hr rfl T.g__law_draw T.k__law_draw T.b__law_draw (va_cons (ve_var (pv 0)) (va_cons (ve_var (pv 5)) (va_nil)))))))
    (vss_cons (vs_set (ps_set hN (i := 7) rfl (by first | exact .inl rfl | exact .inr rfl) (ve_frz (ve_op op_addV sim_add (ve_op op_mulV sim_mul (ve_op op_addV sim_add (ve_op op_mulV sim_mul (ve_tup (va_cons (ve_const pe_int (fun _ => .int _)) (va_nil))) (ve_var (pv 1))) (ve_op op_mulV sim_mul (ve_tup (va_cons (ve_const pe_int (fun _ => .int _)) (va_nil))) (ve_var (pv 2)))) (ve_op op_sub sim_sub (ve_var (pv 3)) (ve_const pe_int (fun _ => .int _)))) (ve_op op_mulV sim_mul (ve_tup (va_cons (ve_const pe_int (fun _ => .int _)) (va_nil))) (ve_var (pv 1)))))))
    (vss_cons (vs_if (vt_bool (vw_or (vt_not (vt_truth rfl (ve_call (ps := ps__law_same) rfl tk (FnOk.mono (k := 4) (ok__law_same T) (by decide)) hr rfl T.g__law_same T.k__law_same T.b__law_same (va_cons (ve_call (ps := ps_is_plan) rfl tk (FnOk.mono (k := 4) (ok_is_plan T) (by decide)) hr rfl T.g_is_plan T.k_is_plan T.b_is_plan (va_cons (ve_var (pv 4)) (va_nil))) (va_cons (ve_const pe_bl (fun _ => .bl _)) (va_nil)))))) (vw_or (vt_not (vt_truth rfl (ve_call (ps := ps__law_same) rfl tk (FnOk.mono (k := 4) (ok__law_same T) (by decide)) hr rfl T.g__law_same T.k__law_same T.b__law_same (va_cons (ve_call (ps := ps_is_plan) rfl tk (FnOk.mono (k := 4) (ok_is_plan T) (by decide)) hr rfl T.g_is_plan T.k_is_plan T.b_is_plan (va_cons (ve_tup (va_cons (ve_const pe_int (fun _ => .int _)) (va_cons (ve_var (pv 2)) (va_cons (ve_var (pv 3)) (va_nil))))) (va_nil))) (va_cons (ve_const pe_bl (fun _ => .bl _)) (va_nil)))))) (vw_or (vt_cmp (op_neD (lt64 hu)) sim_ne (ve_call (ps := ps_length_of) rfl tk (FnOk.mono (k := 4) (ok_length_of T) (by decide)) hr rfl T.g_length_of T.k_length_of T.b_length_of (va_cons (ve_var (pv 4)) (va_nil))) (ve_callB cr_len sim_len rfl T.n_len (by rfl) (va_cons (ve_var (pv 7)) (va_nil))) (by rfl)) (vw_one (vt_cmp (op_neD (lt64 hu)) sim_ne (ve_call (ps := ps_row_of) rfl tk (FnOk.mono (k := 4) (ok_row_of T) (by decide)) hr rfl T.g_row_of T.k_row_of T.b_row_of (va_cons (ve_var (pv 4)) (va_nil))) (ve_var (pv 7)) (by rfl))))))) (vss_one (vs_ret (ve_const pe_bl (fun _ => .bl _)))) (vss_nil))
    (vss_cons (vs_if (vt_bool (vw_or (vt_cmp (op_neD (lt64 hu)) sim_ne (ve_call (ps := ps_end_from) rfl tk (FnOk.mono (k := 4) (ok_end_from T) (by decide)) hr rfl T.g_end_from T.k_end_from T.b_end_from (va_cons (ve_var (pv 4)) (va_cons (ve_var (pv 5)) (va_cons (ve_var (pv 6)) (va_nil))))) (ve_op op_modN sim_mod (ve_callTy call_int1 sim_int rfl T.n_int (by rfl) (va_cons (ve_op op_sub sim_sub (ve_op op_addV sim_add (ve_var (pv 6)) (ve_callB cr_len sim_len rfl T.n_len (by rfl) (va_cons (ve_var (pv 7)) (va_nil)))) (ve_const pe_int (fun _ => .int _))) (va_nil))) (ve_var (pv 5))) (by rfl)) (vw_or (vt_cmp (op_neD (lt64 hu)) sim_ne (ve_call (ps := ps_end_from) rfl tk (FnOk.mono (k := 4) (ok_end_from T) (by decide)) hr rfl T.g_end_from T.k_end_from T.b_end_from (va_cons (ve_var (pv 4)) (va_cons (ve_var (pv 5)) (va_cons (ve_call (ps := ps_start_for) rfl tk (FnOk.mono (k := 4) (ok_start_for T) (by decide)) hr rfl T.g_start_for T.k_start_for T.b_start_for (va_cons (ve_var (pv 4)) (va_cons (ve_var (pv 5)) (va_nil)))) (va_nil))))) (ve_const pe_int (fun _ => .int _)) (by rfl)) (vw_one (vt_notInR rfl T.n_range (ve_call (ps := ps_start_for) rfl tk (FnOk.mono (k := 4) (ok_start_for T) (by decide)) hr rfl T.g_start_for T.k_start_for T.b_start_for (va_cons (ve_var (pv 4)) (va_cons (ve_var (pv 5)) (va_nil)))) (va_cons (ve_var (pv 5)) (va_nil))))))) (vss_one (vs_ret (ve_const pe_bl (fun _ => .bl _)))) (vss_nil))
    (vss_cons (vs_if (vt_bool (vw_or (vt_cmp (op_neD (lt64 hu)) sim_ne (ve_new (vn_lc (own := [("place", 20)]) rfl hN (vi_range1 rfl T.n_range (va_cons (ve_callB cr_len sim_len rfl T.n_len (by rfl) (va_cons (ve_var (pv 7)) (va_nil))) (va_nil))) (show BlkOk N__law_planned (defScope s__law_planned) _ _ from ⟨rfl, by decide +kernel, by decide +kernel, by decide +kernel, by decide +kernel⟩) (fun _ _ _ _ _ => vg_name (pg_name hN rfl (by first | exact .inl rfl | exact .inr rfl))) (fun _ _ _ _ _ => vts_nil) (fun _ _ _ _ _ => ve_call (ps := ps__law_sounding) rfl takes_no (FnOk.mono (k := 4) (ok__law_sounding T) (by decide)) hr rfl T.g__law_sounding T.k__law_sounding T.b__law_sounding (va_cons (ve_var (pv 4)) (va_cons (ve_var (pv 20)) (va_nil)))) (by decide))) (ve_new (vn_lc (own := [("sign", 21)]) rfl hN (vi_all rfl (ve_var (pv 7))) (show BlkOk N__law_planned (defScope s__law_planned) _ _ from ⟨rfl, by decide +kernel, by decide +kernel, by decide +kernel, by decide +kernel⟩) (fun _ _ _ _ _ => vg_name (pg_name hN rfl (by first | exact .inl rfl | exact .inr rfl))) (fun _ _ _ _ _ => vts_nil) (fun _ _ _ _ _ => ve_cmp (op_eqD (lt64 hu)) sim_eq (ve_var (pv 21)) (ve_const pe_int (fun _ => .int _)) (by rfl)) (by decide))) (by rfl)) (vw_or (vt_cmp op_isNotV sim_isNot (ve_call (ps := ps__law_sounding) rfl tk (FnOk.mono (k := 4) (ok__law_sounding T) (by decide)) hr rfl T.g__law_sounding T.k__law_sounding T.b__law_sounding (va_cons (ve_var (pv 4)) (va_cons (ve_callB cr_len sim_len rfl T.n_len (by rfl) (va_cons (ve_var (pv 7)) (va_nil))) (va_nil)))) (ve_const pe_non (fun _ => .non)) (by rfl)) (vw_one (vt_cmp op_isNotV sim_isNot (ve_call (ps := ps__law_sounding) rfl tk (FnOk.mono (k := 4) (ok__law_sounding T) (by decide)) hr rfl T.g__law_sounding T.k__law_sounding T.b__law_sounding (va_cons (ve_var (pv 4)) (va_cons (ve_op op_sub sim_sub (ve_const pe_int (fun _ => .int _)) (ve_const pe_int (fun _ => .int _))) (va_nil)))) (ve_const pe_non (fun _ => .non)) (by rfl)))))) (vss_one (vs_ret (ve_const pe_bl (fun _ => .bl _)))) (vss_nil))
    (vss_cons (vs_if (vt_cmp (op_neD (lt64 hu)) sim_ne (ve_call (ps := ps_strokes_at) rfl tk (FnOk.mono (k := 4) (ok_strokes_at T) (by decide)) hr rfl T.g_strokes_at T.k_strokes_at T.b_strokes_at (va_cons (ve_var (pv 4)) (va_cons (ve_var (pv 5)) (va_cons (ve_var (pv 6)) (va_nil))))) (ve_callTy call_tuple_of sim_tuple rfl T.n_tuple (by rfl) (va_cons (ve_new (vn_lc (own := [("k", 22)]) rfl hN (vi_range1 rfl T.n_range (va_cons (ve_var (pv 3)) (va_nil))) (show BlkOk N__law_planned (defScope s__law_planned) _ _ from ⟨rfl, by decide +kernel, by decide +kernel, by decide +kernel, by decide +kernel⟩) (fun _ _ _ _ _ => vg_name (pg_name hN rfl (by first | exact .inl rfl | exact .inr rfl))) (fun _ _ _ _ _ => vts_nil) (fun _ _ _ _ _ => ve_op op_modN sim_mod (ve_callTy call_int1 sim_int rfl T.n_int (by rfl) (va_cons (ve_op op_addV sim_add (ve_var (pv 6)) (ve_op op_mulV sim_mul (ve_var (pv 22)) (ve_op op_addV sim_add (ve_var (pv 1)) (ve_var (pv 2))))) (va_nil))) (ve_var (pv 5))) (by decide))) (va_nil))) (by rfl)) (vss_one (vs_ret (ve_const pe_bl (fun _ => .bl _)))) (vss_nil))
    (vss_cons (vs_if (vt_bool (vw_or (vt_bool (vw_and (vt_cmp (op_geV (lt64 hu)) sim_ord (ve_op op_mulV sim_mul (ve_op op_sub sim_sub (ve_call (ps := ps_cycles_of) rfl tk (FnOk.mono (k := 4) (ok_cycles_of T) (by decide)) hr rfl T.g_cycles_of T.k_cycles_of T.b_cycles_of (va_cons (ve_var (pv 4)) (va_cons (ve_var (pv 5)) (va_nil)))) (ve_const pe_int (fun _ => .int _))) (ve_var (pv 5))) (ve_op op_sub sim_sub (ve_callB cr_len sim_len rfl T.n_len (by rfl) (va_cons (ve_var (pv 7)) (va_nil))) (ve_const pe_int (fun _ => .int _))) (by rfl)) (vw_one (vt_cmp (op_gtV (lt64 hu)) sim_ord (ve_callB cr_len sim_len rfl T.n_len (by rfl) (va_cons (ve_var (pv 7)) (va_nil))) (ve_const pe_int (fun _ => .int _)) (by rfl))))) (vw_one (vt_cmp (op_ltV (lt64 hu)) sim_ord (ve_op op_mulV sim_mul (ve_call (ps := ps_cycles_of) rfl tk (FnOk.mono (k := 4) (ok_cycles_of T) (by decide)) hr rfl T.g_cycles_of T.k_cycles_of T.b_cycles_of (va_cons (ve_var (pv 4)) (va_cons (ve_var (pv 5)) (va_nil)))) (ve_var (pv 5))) (ve_op op_sub sim_sub (ve_callB cr_len sim_len rfl T.n_len (by rfl) (va_cons (ve_var (pv 7)) (va_nil))) (ve_const pe_int (fun _ => .int _))) (by rfl))))) (vss_one (vs_ret (ve_const pe_bl (fun _ => .bl _)))) (vss_nil))
    (vss_cons (vs_set (ps_set hN (i := 8) rfl (by first | exact .inl rfl | exact .inr rfl) (ve_frz (ve_call (ps := ps_rests_for) rfl tk (FnOk.mono (k := 4) (ok_rests_for T) (by decide)) hr rfl T.g_rests_for T.k_rests_for T.b_rests_for (va_cons (ve_var (pv 1)) (va_cons (ve_var (pv 3)) (va_cons (ve_var (pv 5)) (va_cons (ve_var (pv 6)) (va_cons (ve_const pe_int (fun _ => .int _)) (va_nil))))))))))
    (vss_cons (vs_if (vt_cmp (op_neD (lt64 hu)) sim_ne (ve_var (pv 8)) (ve_new (vn_lc (own := [("one", 19)]) rfl hN (vi_range1 rfl T.n_range (va_cons (ve_const pe_int (fun _ => .int _)) (va_nil))) (show BlkOk N__law_planned (defScope s__law_planned) _ _ from ⟨rfl, by decide +kernel, by decide +kernel, by decide +kernel, by decide +kernel⟩) (fun _ _ _ _ _ => vg_name (pg_name hN rfl (by first | exact .inl rfl | exact .inr rfl))) (fun _ _ _ _ _ => vts_one (vt_cmp (op_eqD (lt64 hu)) sim_eq (ve_op op_modN sim_mod (ve_callTy call_int1 sim_int rfl T.n_int (by rfl) (va_cons (ve_op op_sub sim_sub (ve_op op_addV sim_add (ve_op op_addV sim_add (ve_var (pv 6)) (ve_op op_mulV sim_mul (ve_var (pv 1)) (ve_var (pv 3)))) (ve_op op_mulV sim_mul (ve_var (pv 19)) (ve_op op_sub sim_sub (ve_var (pv 3)) (ve_const pe_int (fun _ => .int _))))) (ve_const pe_int (fun _ => .int _))) (va_nil))) (ve_var (pv 5))) (ve_const pe_int (fun _ => .int _)) (by rfl))) (fun _ _ _ _ _ => ve_var (pv 19)) (by decide))) (by rfl)) (vss_one (vs_ret (ve_const pe_bl (fun _ => .bl _)))) (vss_nil))
    (vss_cons (vs_if (vt_cmp (op_neD (lt64 hu)) sim_ne (ve_call (ps := ps_phrases_for) rfl tk (FnOk.mono (k := 4) (ok_phrases_for T) (by decide)) hr rfl T.g_phrases_for T.k_phrases_for T.b_phrases_for (va_cons (ve_var (pv 2)) (va_cons (ve_var (pv 3)) (va_cons (ve_var (pv 5)) (va_cons (ve_var (pv 6)) (va_cons (ve_const pe_int (fun _ => .int _)) (va_nil))))))) (ve_new (vn_lc (own := [("one", 19)]) rfl hN (vi_range2 rfl T.n_range (va_cons (ve_const pe_int (fun _ => .int _)) (va_cons (ve_const pe_int (fun _ => .int _)) (va_nil)))) (show BlkOk N__law_planned (defScope s__law_planned) _ _ from ⟨rfl, by decide +kernel, by decide +kernel, by decide +kernel, by decide +kernel⟩) (fun _ _ _ _ _ => vg_name (pg_name hN rfl (by first | exact .inl rfl | exact .inr rfl))) (fun _ _ _ _ _ => vts_one (vt_cmp (op_eqD (lt64 hu)) sim_eq (ve_op op_modN sim_mod (ve_callTy call_int1 sim_int rfl T.n_int (by rfl) (va_cons (ve_op op_sub sim_sub (ve_op op_addV sim_add (ve_op op_addV sim_add (ve_var (pv 6)) (ve_op op_mulV sim_mul (ve_var (pv 19)) (ve_var (pv 3)))) (ve_op op_mulV sim_mul (ve_var (pv 2)) (ve_op op_sub sim_sub (ve_var (pv 3)) (ve_const pe_int (fun _ => .int _))))) (ve_const pe_int (fun _ => .int _))) (va_nil))) (ve_var (pv 5))) (ve_const pe_int (fun _ => .int _)) (by rfl))) (fun _ _ _ _ _ => ve_var (pv 19)) (by decide))) (by rfl)) (vss_one (vs_ret (ve_const pe_bl (fun _ => .bl _)))) (vss_nil))
    (vss_cons (vs_set (ps_set hN (i := 9) rfl (by first | exact .inl rfl | exact .inr rfl) (ve_frz (ve_call (ps := ps_first_rest) rfl tk (FnOk.mono (k := 4) (ok_first_rest T) (by decide)) hr rfl T.g_first_rest T.k_first_rest T.b_first_rest (va_cons (ve_var (pv 1)) (va_cons (ve_var (pv 3)) (va_cons (ve_var (pv 5)) (va_cons (ve_var (pv 6)) (va_nil)))))))))
    (vss_cons (vs_set (tAsg_weak (vs_setLc (own := [("one", 19)]) (i := 10) rfl hN rfl rfl (sw_true rfl rfl rfl rfl) (vi_range1 rfl T.n_range (va_cons (ve_op op_addV sim_add (ve_var (pv 5)) (ve_const pe_int (fun _ => .int _))) (va_nil))) (show BlkOk N__law_planned (defScope s__law_planned) _ _ from ⟨rfl, by decide +kernel, by decide +kernel, by decide +kernel, by decide +kernel⟩) (fun _ _ _ _ _ => vg_name (pg_name hN rfl (by first | exact .inl rfl | exact .inr rfl))) (fun _ _ _ _ _ => vts_one (vt_cmp (op_eqD (lt64 hu)) sim_eq (ve_op op_modN sim_mod (ve_callTy call_int1 sim_int rfl T.n_int (by rfl) (va_cons (ve_op op_sub sim_sub (ve_op op_addV sim_add (ve_op op_addV sim_add (ve_var (pv 6)) (ve_op op_mulV sim_mul (ve_var (pv 1)) (ve_var (pv 3)))) (ve_op op_mulV sim_mul (ve_var (pv 19)) (ve_op op_sub sim_sub (ve_var (pv 3)) (ve_const pe_int (fun _ => .int _))))) (ve_const pe_int (fun _ => .int _))) (va_nil))) (ve_var (pv 5))) (ve_const pe_int (fun _ => .int _)) (by rfl))) (fun _ _ _ _ _ => ve_var (pv 19)) (by decide)) newD))
    (vss_cons (vs_if (vt_cmp (op_neD (lt64 hu)) sim_ne (ve_var (pv 9)) (ve_if (vt_cmp (op_gtV (lt64 hu)) sim_ord (ve_callB cr_len sim_len rfl T.n_len (by rfl) (va_cons (ve_var (pv 10)) (va_nil))) (ve_const pe_int (fun _ => .int _)) (by rfl)) (ve_ix (ix_all (lt1 hu)) sim_ixA (ve_var (pv 10)) (ve_const pe_int (fun _ => .int _)) (fun _ _ => rfl)) (ve_const pe_non (fun _ => .non))) (by rfl)) (vss_one (vs_ret (ve_const pe_bl (fun _ => .bl _)))) (vss_nil))
    (vss_cons (vs_set (ps_set hN (i := 11) rfl (by first | exact .inl rfl | exact .inr rfl) (ve_frz (ve_op op_addV sim_add (ve_const pe_int (fun _ => .int _)) (ve_call (ps := ps__law_draw) rfl tk (FnOk.mono (k := 4) (ok__law_draw T) (by decide)) hr rfl T.g__law_draw T.k__law_draw T.b__law_draw (va_cons (ve_var (pv 0)) (va_cons (ve_const pe_int (fun _ => .int _)) (va_nil))))))))
    (vss_cons (vs_set (ps_set hN (i := 12) rfl (by first | exact .inl rfl | exact .inr rfl) (ve_frz (ve_call (ps := ps_plans_filling) rfl tk (FnOk.mono (k := 4) (ok_plans_filling T) (by decide)) hr rfl T.g_plans_filling T.k_plans_filling T.b_plans_filling (va_cons (ve_var (pv 3)) (va_cons (ve_var (pv 5)) (va_cons (ve_var (pv 11)) (va_nil))))))))
    (vss_cons (vs_if (vt_truth rfl (ve_callB (cr_any rfl) sim_any rfl T.n_any (by rfl) (va_cons (ve_new (vn_lc (own := [("one", 19)]) rfl hN (vi_all rfl (ve_var (pv 12))) (show BlkOk N__law_planned (defScope s__law_planned) _ _ from ⟨rfl, by decide +kernel, by decide +kernel, by decide +kernel, by decide +kernel⟩) (fun _ _ _ _ _ => vg_name (pg_name hN rfl (by first | exact .inl rfl | exact .inr rfl))) (fun _ _ _ _ _ => vts_nil) (fun _ _ _ _ _ => ve_or rfl (ve_cmp (op_neD (lt64 hu)) sim_ne (ve_call (ps := ps_length_of) rfl takes_no (FnOk.mono (k := 4) (ok_length_of T) (by decide)) hr rfl T.g_length_of T.k_length_of T.b_length_of (va_cons (ve_var (pv 19)) (va_nil))) (ve_op op_addV sim_add (ve_op op_mulV sim_mul (ve_var (pv 5)) (ve_var (pv 11))) (ve_const pe_int (fun _ => .int _))) (by rfl)) (ve_one (ve_cmp (op_neD (lt64 hu)) sim_ne (ve_ix (ix_all (lt1 hu)) sim_ixA (ve_var (pv 19)) (ve_const pe_int (fun _ => .int _)) (fun _ _ => rfl)) (ve_var (pv 3)) (by rfl)))) (by decide))) (va_nil)))) (vss_one (vs_ret (ve_const pe_bl (fun _ => .bl _)))) (vss_nil))
    (vss_cons (vs_if (vt_cmp (op_neD (lt64 hu)) sim_ne (ve_callB cr_len sim_len rfl T.n_len (by rfl) (va_cons (ve_var (pv 12)) (va_nil))) (ve_callB cr_len sim_len rfl T.n_len (by rfl) (va_cons (ve_new (vn_lc (own := [("one", 19)]) rfl hN (vi_range2 rfl T.n_range (va_cons (ve_const pe_int (fun _ => .int _)) (va_cons (ve_op op_addV sim_add (ve_op op_mulV sim_mul (ve_var (pv 5)) (ve_var (pv 11))) (ve_const pe_int (fun _ => .int _))) (va_nil)))) (show BlkOk N__law_planned (defScope s__law_planned) _ _ from ⟨rfl, by decide +kernel, by decide +kernel, by decide +kernel, by decide +kernel⟩) (fun _ _ _ _ _ => vg_name (pg_name hN rfl (by first | exact .inl rfl | exact .inr rfl))) (fun _ _ _ _ _ => vts_one (vt_bool (vw_and (vt_cmp (op_geV (lt64 hu)) sim_ord (ve_op op_addV sim_add (ve_op op_mulV sim_mul (ve_var (pv 5)) (ve_var (pv 11))) (ve_const pe_int (fun _ => .int _))) (ve_op op_mulV sim_mul (ve_var (pv 19)) (ve_var (pv 3))) (by rfl)) (vw_one (vt_cmp (op_eqD (lt64 hu)) sim_eq (ve_op op_modN sim_mod (ve_callTy call_int1 sim_int rfl T.n_int (by rfl) (va_cons (ve_op op_sub sim_sub (ve_op op_addV sim_add (ve_op op_mulV sim_mul (ve_var (pv 5)) (ve_var (pv 11))) (ve_const pe_int (fun _ => .int _))) (ve_op op_mulV sim_mul (ve_var (pv 19)) (ve_var (pv 3)))) (va_nil))) (ve_op op_sub sim_sub (ve_var (pv 3)) (ve_const pe_int (fun _ => .int _)))) (ve_const pe_int (fun _ => .int _)) (by rfl)))))) (fun _ _ _ _ _ => ve_var (pv 19)) (by decide))) (va_nil))) (by rfl)) (vss_one (vs_ret (ve_const pe_bl (fun _ => .bl _)))) (vss_nil))
    (vss_cons (vs_set (ps_set hN (i := 13) rfl (by first | exact .inl rfl | exact .inr rfl) (ve_frz (ve_call (ps := ps_plan_of) rfl tk (FnOk.mono (k := 4) (ok_plan_of T) (by decide)) hr rfl T.g_plan_of T.k_plan_of T.b_plan_of (va_cons (ve_var (pv 7)) (va_cons (ve_var (pv 3)) (va_nil)))))))
    (vss_cons (vs_if (vt_bool (vw_or (vt_cmp op_isV sim_is (ve_var (pv 13)) (ve_const pe_non (fun _ => .non)) (by rfl)) (vw_or (vt_cmp (op_neD (lt64 hu)) sim_ne (ve_call (ps := ps_row_of) rfl tk (FnOk.mono (k := 4) (ok_row_of T) (by decide)) hr rfl T.g_row_of T.k_row_of T.b_row_of (va_cons (ve_var (pv 13)) (va_nil))) (ve_var (pv 7)) (by rfl)) (vw_or (vt_cmp (op_neD (lt64 hu)) sim_ne (ve_ix (ix_all (lt1 hu)) sim_ixA (ve_var (pv 13)) (ve_const pe_int (fun _ => .int _)) (fun _ _ => rfl)) (ve_var (pv 3)) (by rfl)) (vw_or (vt_cmp (op_gtV (lt64 hu)) sim_ord (ve_ix (ix_all (lt1 hu)) sim_ixA (ve_var (pv 13)) (ve_const pe_int (fun _ => .int _)) (fun _ _ => rfl)) (ve_var (pv 2)) (by rfl)) (vw_one (vt_cmp op_isNotV sim_isNot (ve_call (ps := ps_plan_of) rfl tk (FnOk.mono (k := 4) (ok_plan_of T) (by decide)) hr rfl T.g_plan_of T.k_plan_of T.b_plan_of (va_cons (ve_op op_addV sim_add (ve_var (pv 7)) (ve_tup (va_cons (ve_const pe_int (fun _ => .int _)) (va_nil)))) (va_cons (ve_var (pv 3)) (va_nil)))) (ve_const pe_non (fun _ => .non)) (by rfl)))))))) (vss_one (vs_ret (ve_const pe_bl (fun _ => .bl _)))) (vss_nil))
    (vss_cons (vs_set (ps_set hN (i := 14) rfl (by first | exact .inl rfl | exact .inr rfl) (ve_frz (ve_call (ps := ps__law_draw) rfl tk (FnOk.mono (k := 4) (ok__law_draw T) (by decide)) hr rfl T.g__law_draw T.k__law_draw T.b__law_draw (va_cons (ve_var (pv 0)) (va_cons (ve_const pe_int (fun _ => .int _)) (va_nil)))))))
    (vss_cons (vs_if (vt_bool (vw_or (vt_cmp (op_neD (lt64 hu)) sim_ne (ve_call (ps := ps_nested) rfl tk (FnOk.mono (k := 4) (ok_nested T) (by decide)) hr rfl T.g_nested T.k_nested T.b_nested (va_cons (ve_var (pv 4)) (va_cons (ve_var (pv 14)) (va_cons (ve_const pe_int (fun _ => .int _)) (va_nil))))) (ve_op op_addV sim_add (ve_op op_addV sim_add (ve_op op_addV sim_add (ve_op op_addV sim_add (ve_var (pv 7)) (ve_op op_mulV sim_mul (ve_tup (va_cons (ve_const pe_int (fun _ => .int _)) (va_nil))) (ve_var (pv 14)))) (ve_var (pv 7))) (ve_op op_mulV sim_mul (ve_tup (va_cons (ve_const pe_int (fun _ => .int _)) (va_nil))) (ve_var (pv 14)))) (ve_var (pv 7))) (by rfl)) (vw_one (vt_cmp (op_neD (lt64 hu)) sim_ne (ve_call (ps := ps_nested_length) rfl tk (FnOk.mono (k := 4) (ok_nested_length T) (by decide)) hr rfl T.g_nested_length T.k_nested_length T.b_nested_length (va_cons (ve_var (pv 4)) (va_cons (ve_var (pv 14)) (va_cons (ve_const pe_int (fun _ => .int _)) (va_nil))))) (ve_op op_addV sim_add (ve_op op_mulV sim_mul (ve_const pe_int (fun _ => .int _)) (ve_callB cr_len sim_len rfl T.n_len (by rfl) (va_cons (ve_var (pv 7)) (va_nil)))) (ve_op op_mulV sim_mul (ve_const pe_int (fun _ => .int _)) (ve_var (pv 14)))) (by rfl))))) (vss_one (vs_ret (ve_const pe_bl (fun _ => .bl _)))) (vss_nil))
    (vss_cons (vs_set (ps_set hN (i := 15) rfl (by first | exact .inl rfl | exact .inr rfl) (ve_frz (ve_op op_addV sim_add (ve_const pe_int (fun _ => .int _)) (ve_call (ps := ps__law_draw) rfl tk (FnOk.mono (k := 4) (ok__law_draw T) (by decide)) hr rfl T.g__law_draw T.k__law_draw T.b__law_draw (va_cons (ve_var (pv 0)) (va_cons (ve_const pe_int (fun _ => .int _)) (va_nil))))))))
    (vss_cons (vs_asg (ps_asg (ve_frz (ve_call (ps := ps_shrinking) rfl tk (FnOk.mono (k := 4) (ok_shrinking T) (by decide)) hr rfl T.g_shrinking T.k_shrinking T.b_shrinking (va_cons (ve_var (pv 1)) (va_cons (ve_var (pv 15)) (va_cons (ve_var (pv 2)) (va_cons (ve_var (pv 5)) (va_nil))))))) (vg_tup rfl rfl (vgs_cons (vg_name (pg_name hN rfl (by first | exact .inl rfl | exact .inr rfl))) (vgs_cons (vg_name (pg_name hN rfl (by first | exact .inl rfl | exact .inr rfl))) (vgs_nil))))))
    (vss_cons (vs_set (ps_set hN (i := 18) rfl (by first | exact .inl rfl | exact .inr rfl) (ve_frz (ve_op op_addV sim_add (ve_callB (cr_sumX rfl) sim_sum rfl T.n_sum (by rfl) (va_cons (ve_var (pv 16)) (va_nil))) (ve_op op_mulV sim_mul (ve_var (pv 2)) (ve_op op_sub sim_sub (ve_callB cr_len sim_len rfl T.n_len (by rfl) (va_cons (ve_var (pv 16)) (va_nil))) (ve_const pe_int (fun _ => .int _))))))))
    (vss_one (vs_ret (ve_and rfl (ve_cmp (op_eqD (lt64 hu)) sim_eq (ve_var (pv 16)) (ve_callTy call_tuple_of sim_tuple rfl T.n_tuple (by rfl) (va_cons (ve_new (vn_lc (own := [("k", 22)]) rfl hN (vi_range1 rfl T.n_range (va_cons (ve_var (pv 1)) (va_nil))) (show BlkOk N__law_planned (defScope s__law_planned) _ _ from ⟨rfl, by decide +kernel, by decide +kernel, by decide +kernel, by decide +kernel⟩) (fun _ _ _ _ _ => vg_name (pg_name hN rfl (by first | exact .inl rfl | exact .inr rfl))) (fun _ _ _ _ _ => vts_one (vt_cmp (op_gtV (lt64 hu)) sim_ord (ve_op op_sub sim_sub (ve_var (pv 1)) (ve_op op_mulV sim_mul (ve_var (pv 22)) (ve_var (pv 15)))) (ve_const pe_int (fun _ => .int _)) (by rfl))) (fun _ _ _ _ _ => ve_op op_sub sim_sub (ve_var (pv 1)) (ve_op op_mulV sim_mul (ve_var (pv 22)) (ve_var (pv 15)))) (by decide))) (va_nil))) (by rfl)) (ve_one (ve_cmp (op_eqD (lt64 hu)) sim_eq (ve_op op_modN sim_mod (ve_callTy call_int1 sim_int rfl T.n_int (by rfl) (va_cons (ve_op op_sub sim_sub (ve_op op_addV sim_add (ve_var (pv 17)) (ve_var (pv 18))) (ve_const pe_int (fun _ => .int _))) (va_nil))) (ve_var (pv 5))) (ve_const pe_int (fun _ => .int _)) (by rfl)))))))))))))))))))))))))))))))))))
theorem ok_law (T : Top K mg) : FnOk P w K mg base (L2.CX P w) 7 T.a_law T.fd_law ps_law (spM K T.cls f_law 1) :=
  def_ok (N := N_law) T.F_law sc_law (by decide) fun cdv A outer s H E io hr tk => by
    have hN := sc_law.nd
    have hu := hu66 hr
    exact (vss_cons (vs_setN (ps_set hN (i := 1) rfl (by first | exact .inl rfl | exact .inr rfl) (vn_lst (va_cons (ve_const pe_int (fun _ => .int _)) (va_cons (ve_const pe_int (fun _ => .int _)) (va_cons (ve_new (vn_callTy call_list_of sim_list rfl T.n_list (by rfl) (va_cons (ve_var (pv 0)) (va_nil)))) (va_cons (ve_const pe_int (fun _ => .int _)) (va_nil))))))))
    (vss_one (vs_ret (ve_and rfl (ve_call (ps := ps__law_sung) rfl tk (FnOk.mono (k := 6) (ok__law_sung T) (by decide)) hr rfl T.g__law_sung T.k__law_sung T.b__law_sung (va_cons (ve_var (pv 1)) (va_cons (ve_call (ps := ps__law_melody) rfl tk (FnOk.mono (k := 6) (ok__law_melody T) (by decide)) hr rfl T.g__law_melody T.k__law_melody T.b__law_melody (va_cons (ve_var (pv 1)) (va_nil))) (va_nil)))) (ve_and rfl (ve_call (ps := ps__law_hand) rfl tk (FnOk.mono (k := 6) (ok__law_hand T) (by decide)) hr rfl T.g__law_hand T.k__law_hand T.b__law_hand (va_cons (ve_var (pv 1)) (va_nil))) (ve_one (ve_call (ps := ps__law_planned) rfl tk (FnOk.mono (k := 6) (ok__law_planned T) (by decide)) hr rfl T.g__law_planned T.k__law_planned T.b__law_planned (va_cons (ve_var (pv 1)) (va_nil)))))))))
end
end K20

set_option Elab.async false
set_option linter.all false
set_option autoImplicit false
set_option maxRecDepth 100000
set_option maxHeartbeats 1000000
namespace K20
open PySem PySem.Spec PyProof.Rows L2 VL
/-! ### hexachords, in plain words -/
def H6 : List Int := [0, 2, 4, 5, 7, 9]
def B4 : List Int := [-5, 0, 5, 7]
def syl (g : Int) : PyData := if g = 0 then .str "ut" else if g = 2 then .str "re" else if g = 4 then .str "mi" else if g = 5 then .str "fa" else if g = 7 then .str "sol" else if g = 9 then .str "la" else .none
theorem in6 (g : Int) : gInA (.int g) (.tuple [.int 0, .int 2, .int 4, .int 5, .int 7, .int 9]) = some (.bool (decide (g ∈ H6))) := gInA_ints_t g H6
theorem s_all : ans (f_all_bases []) = some (.list (B4.map .int)) := by rfl
theorem s_syl (b h : Int) : ans (f_syllable_of [.val (.int b), .val (.int h)]) = some (syl (h - b)) := by
  generalize e : h - b = g
  by_cases hg : g ∈ H6
  · have cs : g = 0 ∨ g = 2 ∨ g = 4 ∨ g = 5 ∨ g = 7 ∨ g = 9 := by simpa [H6] using hg
    rcases cs with rfl | rfl | rfl | rfl | rfl | rfl <;>
    · simp [f_syllable_of, fnM, m_syllable_of, e, in6, H6, List.replicate]
      rfl
  · have cs : ¬ (g = 0 ∨ g = 2 ∨ g = 4 ∨ g = 5 ∨ g = 7 ∨ g = 9) := fun h => hg (by simpa [H6] using h)
    simp only [not_or] at cs
    simp [f_syllable_of, fnM, m_syllable_of, e, in6, hg, List.replicate, syl, cs, ans]
theorem syl_no {g : Int} : isNo (syl g) = !decide (g ∈ H6) := by
  by_cases hg : g ∈ H6
  · have cs : g = 0 ∨ g = 2 ∨ g = 4 ∨ g = 5 ∨ g = 7 ∨ g = 9 := by simpa [H6] using hg
    rcases cs with rfl | rfl | rfl | rfl | rfl | rfl <;> rfl
  · have cs : ¬ (g = 0 ∨ g = 2 ∨ g = 4 ∨ g = 5 ∨ g = 7 ∨ g = 9) := fun h => hg (by simpa [H6] using h)
    simp only [not_or] at cs
    simp [syl, cs, hg]
theorem c_syl (b h : Int) (ρ : Rho) : callD f_syllable_of 2 [.v (.int b), .v (.int h)] ρ = .ok (.v (syl (h - b))) ρ := callV2 (s_syl b h)
theorem c_all (ρ : Rho) : callD f_all_bases 0 [] ρ = .ok (.v (.list (B4.map .int))) ρ := callV0 s_all
def nm (h : Int) : List Int := B4.filter fun b => decide (h - b ∈ H6)
def named (h b : Int) : PyData := .tuple [.int b, syl (h - b)]
theorem s_names (h : Int) : ans (f_names_of [.val (.int h)]) = some (.list ((nm h).map (named h))) := by
  have z := lc_map (own := [1]) (t := gN 1) (mt := mB (mOp2 gIsNot (mCall f_syllable_of 2 (mCons (mVar 1) (mCons (mVar 0) (mNil)))) (mConst .none))) (me := mFrz (mTup (mCons (mVar 1) (mCons (mCall f_syllable_of 2 (mCons (mVar 1) (mCons (mVar 0) (mNil)))) (mNil))))) (ρ := [.val (.int h), .no]) PyData.int
    (fun b => if h - b ∈ H6 then some (named h b) else none) B4 fun b _ => by
      by_cases hg : h - b ∈ H6 <;> simp [lcStep, wipeR, unwipe, c_syl, syl_no, hg, named]
  rw [fm_if (fun b => h - b ∈ H6) (named h) B4] at z
  simp [f_names_of, fnM, m_names_of, List.replicate, c_all, z, ans, show B4.length ≤ 16777216 by decide]
  rfl
theorem c_names (h : Int) (ρ : Rho) : callD f_names_of 1 [.v (.int h)] ρ = .ok (.v (.list ((nm h).map (named h)))) ρ := callV1 (s_names h)
theorem s_hand (h : Int) : ans (f_is_in_hand [.val (.int h)]) = some (.bool (decide (nm h ≠ []))) := by
  simp [f_is_in_hand, fnM, m_is_in_hand, List.replicate, c_names, ans]
  cases nm h <;> simp
theorem s_tones (b : Int) : ans (f_tones_of [.val (.int b)]) = some (.tuple (H6.map fun g => .int (b + g))) := by
  have z := lc_map (own := [1]) (t := gN 1) (mt := mYes) (me := mFrz (mOp2 gAdd (mVar 0) (mVar 1))) (ρ := [.val (.int b), .no]) PyData.int (fun g => some (.int (b + g))) H6 fun g _ => by simp [lcStep, wipeR, unwipe]
  rw [filterMap_all] at z
  have z : lcLoop [1] (gN 1) mYes (mFrz (mOp2 gAdd (mVar 0) (mVar 1))) [.int 0, .int 2, .int 4, .int 5, .int 7, .int 9] [.val (.int b), .no] = _ := z
  simp [f_tones_of, fnM, m_tones_of, List.replicate, z, ans]
end K20

set_option Elab.async false
set_option linter.all false
set_option autoImplicit false
set_option maxRecDepth 100000
set_option maxHeartbeats 1000000
namespace K20
open PySem PySem.Spec PyProof.Rows L2 VL
/-! ### the fewest changes, in plain words -/
abbrev Row := Int × List Int
def rLt (a b : Row) : Prop := a.1 < b.1 ∨ (a.1 = b.1 ∧ a.2 < b.2)
instance (a b : Row) : Decidable (rLt a b) := inferInstanceAs (Decidable (_ ∨ _))
def minR (x : Row) (xs : List Row) : Row := xs.foldl (fun a y => if decide (rLt y a) = true then y else a) x
def encR (r : Row) : PyData := .tuple [.int r.1, .tuple (r.2.map .int)]
theorem rLt_irr (a : Row) : ¬ rLt a a := by
  rintro (h | ⟨_, h⟩)
  · omega
  · exact List.lt_irrefl _ h
theorem rLt_tr {a b c : Row} (h : rLt a b) (g : rLt b c) : rLt a c := by
  rcases h with h | ⟨h1, h2⟩ <;> rcases g with g | ⟨g1, g2⟩
  · exact .inl (by omega)
  · exact .inl (by omega)
  · exact .inl (by omega)
  · exact .inr ⟨by omega, List.lt_trans h2 g2⟩
/-- not above -/
def rLe (a b : Row) : Prop := ¬ rLt b a
theorem rLe_refl (a : Row) : rLe a a := rLt_irr a
theorem rLe_tr {a b c : Row} (h : rLe a b) (g : rLe b c) : rLe a c := by
  intro z
  unfold rLe rLt at *
  by_cases h1 : a.1 = b.1
  · by_cases h2 : b.1 = c.1
    · have z2 : c.2 < a.2 := by
        rcases z with z | z
        · omega
        · exact z.2
      have h3 : ¬ b.2 < a.2 := fun q => h (.inr ⟨h1.symm, q⟩)
      have h4 : ¬ c.2 < b.2 := fun q => g (.inr ⟨h2.symm, q⟩)
      have h5 : a.2 ≤ b.2 := List.not_lt.mp h3
      have h6 : b.2 ≤ c.2 := List.not_lt.mp h4
      exact List.not_lt.mpr (List.le_trans h5 h6) z2
    · rcases z with z | z
      · have : ¬ c.1 < b.1 := fun q => g (.inl q)
        omega
      · have : ¬ c.1 < b.1 := fun q => g (.inl q)
        omega
  · have h3 : ¬ b.1 < a.1 := fun q => h (.inl q)
    have h4 : ¬ c.1 < b.1 := fun q => g (.inl q)
    rcases z with z | z <;> omega
theorem minR_spec (x : Row) (xs : List Row) : (minR x xs ∈ x :: xs) ∧ ∀ y ∈ x :: xs, rLe (minR x xs) y := by
  induction xs generalizing x with
  | nil => exact ⟨List.mem_cons_self, fun y hy => by simp at hy; subst hy; exact rLe_refl _⟩
  | cons z r ih =>
    have e : minR x (z :: r) = minR (if decide (rLt z x) = true then z else x) r := rfl
    rw [e]
    by_cases h : rLt z x
    · rw [if_pos (decide_eq_true h)]
      obtain ⟨h1, h2⟩ := ih z
      refine ⟨List.mem_cons_of_mem _ h1, fun y hy => ?_⟩
      rcases List.mem_cons.mp hy with rfl | hy
      · refine rLe_tr (h2 z List.mem_cons_self) fun q => rLt_irr y (rLt_tr q h)
      · exact h2 y hy
    · rw [if_neg (by simpa using h)]
      obtain ⟨h1, h2⟩ := ih x
      refine ⟨?_, fun y hy => ?_⟩
      · rcases List.mem_cons.mp h1 with q | q
        · rw [q]; exact List.mem_cons_self
        · exact List.mem_cons_of_mem _ (List.mem_cons_of_mem _ q)
      · rcases List.mem_cons.mp hy with rfl | hy
        · exact h2 y List.mem_cons_self
        · rcases List.mem_cons.mp hy with rfl | hy
          · exact rLe_tr (h2 x List.mem_cons_self) h
          · exact h2 y (List.mem_cons_of_mem _ hy)
theorem eqv_ints (a b : List Int) : PyData.eqvAll (a.map .int) (b.map .int) = decide (a = b) := by
  have := eqvAll_eq PyData.int (fun a b => by simp [PyData.eqv]) a b
  by_cases h : a = b
  · rw [this.mpr h]; simp [h]
  · have : PyData.eqvAll (a.map .int) (b.map .int) = false := by
      cases q : PyData.eqvAll (a.map .int) (b.map .int) with
      | false => rfl
      | true => exact absurd (this.mp q) h
    rw [this]; simp [h]
theorem lt_enc (a b : Row) : PySem.W.dataLt (encR a) (encR b) = decide (rLt a b) := by
  have h1 : PySem.W.alike (.int a.1) (.int b.1) = true := rfl
  have h2 : PySem.W.alike (.tuple (a.2.map .int)) (.tuple (b.2.map .int)) = true := PySem.W.alike_ints a.2 b.2
  unfold encR
  rw [PySem.W.dataLt_pair h1 h2]
  have e1 : PyData.eqv (.int a.1) (.int b.1) = decide (a.1 = b.1) := eqv_ii
  have e2 : PyData.eqv (.tuple (a.2.map .int)) (.tuple (b.2.map .int)) = decide (a.2 = b.2) := eqv_ints a.2 b.2
  have e3 : PySem.W.dataLt (.tuple (a.2.map .int)) (.tuple (b.2.map .int)) = decide (a.2 < b.2) := by
    rw [PySem.W.dataLt_tuple]; exact PySem.W.dataLt_ints a.2 b.2
  rw [e1, e2, e3, PySem.W.dataLt_int]
  by_cases h : a.1 = b.1
  · by_cases g : a.2 = b.2
    · have : ¬ rLt a b := by
        rintro (z | ⟨_, z⟩)
        · omega
        · rw [g] at z; exact List.lt_irrefl _ z
      simp [h, g, this]
    · by_cases z : a.2 < b.2
      · have : rLt a b := .inr ⟨h, z⟩
        simp [h, g, z, this]
      · have : ¬ rLt a b := by
          rintro (q | ⟨_, q⟩)
          · omega
          · exact z q
        simp [h, g, z, this]
  · by_cases z : a.1 < b.1
    · have : rLt a b := .inl z
      simp [h, z, this]
    · have : ¬ rLt a b := by
        rintro (q | ⟨q, _⟩)
        · exact z q
        · exact h q
      simp [h, z, this]
theorem min_enc (x : Row) (xs : List Row) : PySem.W.minD (encR x) (xs.map encR) = encR (minR x xs) := by
  unfold PySem.W.minD minR
  induction xs generalizing x with
  | nil => rfl
  | cons y r ih =>
    rw [List.map_cons, List.foldl_cons, List.foldl_cons, ← ih]
    rw [lt_enc]
    congr 1
    split <;> rfl
theorem alike_enc (a b : Row) : PySem.W.alike (encR a) (encR b) = true := by
  show (PySem.W.alike (.int a.1) (.int b.1) && (PySem.W.alike (.tuple (a.2.map .int)) (.tuple (b.2.map .int)) && PySem.W.alikeAll [] [])) = true
  have : PySem.W.alike (.tuple (a.2.map .int)) (.tuple (b.2.map .int)) = true := PySem.W.alike_ints a.2 b.2
  rw [this]
  rfl
theorem lay_enc (a : Row) : PyData.canLay0 (encR a) = true := by
  show (PyData.canLay0 (.int a.1) && (PyData.canLay0 (.tuple (a.2.map .int)) && PyData.canLayAll0 [])) = true
  have : PyData.canLay0 (.tuple (a.2.map .int)) = true := canLay_ints a.2
  rw [this]
  rfl
theorem depth_enc (a : Row) : (encR a).depth ≤ 2 := by
  unfold encR
  have := PySem.W.depth_ints a.2
  simp [PyData.depth, PyData.depthAll, this]
theorem best_rows (xs : List Row) : bestOk (xs.map encR) = true := by
  unfold bestOk ordB noNo
  have h1 : PyData.canLayAll0 (xs.map encR) = true := by
    induction xs with
    | nil => rfl
    | cons x r ih => rw [List.map_cons, PyData.canLayAll0, lay_enc, ih]; rfl
  have h2 : PyData.depthAll (xs.map encR) ≤ 2 := by
    clear h1
    induction xs with
    | nil => simp [PyData.depthAll]
    | cons x r ih => rw [List.map_cons, PyData.depthAll]; exact Nat.max_le.mpr ⟨depth_enc x, ih⟩
  have h3 : ((xs.map encR).all fun x => (xs.map encR).all fun y => PySem.W.alike x y) = true := by
    simp [List.all_eq_true, alike_enc]
  have h4 : ((xs.map encR).all fun x => !isNo x) = true := by
    simp [List.all_eq_true]
    intro a b h
    rfl
  rw [h1, h3, h4]
  have : decide (PyData.depthAll (xs.map encR) ≤ 60) = true := decide_eq_true (by omega)
  rw [this]
  rfl
theorem gMin_rows (x : Row) (xs : List Row) : gMin [.list ((x :: xs).map encR)] = some (encR (minR x xs)) := by
  show (if bestOk ((x :: xs).map encR) = true then some (PySem.W.minD (encR x) (xs.map encR)) else none) = _
  rw [best_rows, min_enc]
  rfl
end K20

set_option Elab.async false
set_option linter.all false
set_option autoImplicit false
set_option maxRecDepth 100000
set_option maxHeartbeats 4000000
namespace K20
open PySem PySem.Spec PyProof.Rows L2 VL
abbrev Best := List (Int × Row)
def ext (b : Int) (p : Int × Row) : Row := (p.2.1 + (if p.1 = b then 0 else 1), p.2.2 ++ [b])
def minL : List Row → Row
  | [] => (0, [])
  | x :: xs => minR x xs
def stepB (best : Best) (h : Int) : Best := if best = [] then [] else (nm h).map fun b => (b, minL (best.map (ext b)))
def initB (h : Int) : Best := (nm h).map fun b => (b, (0, [b]))
def encB (best : Best) : List (PyData × PyData) := best.map fun p => (.int p.1, encR p.2)
theorem dk_enc (best : Best) : dkB (encB best) = true := by
  unfold dkB encB
  simp [List.all_eq_true]
  intro a b c h
  rfl
theorem get_enc : ∀ {best : Best} {p : Int × Row}, (best.map (·.1)).Nodup → p ∈ best → getE toKey (.inl p.1) (encB best) = some (encR p.2)
  | [], p, _, h => by cases h
  | q :: r, p, nd, h => by
    rw [List.map_cons, List.nodup_cons] at nd
    rcases List.mem_cons.mp h with rfl | h
    · simp [getE, encB, toKey]
    · have hne : q.1 ≠ p.1 := fun e => nd.1 (e ▸ List.mem_map.mpr ⟨p, h, rfl⟩)
      have ih := get_enc nd.2 h
      unfold getE encB at ih ⊢
      simp only [List.map_cons, List.find?_cons]
      have : decide (toKey (PyData.int q.1) = some (Sum.inl p.1 : Key)) = false := by
        simp [toKey, hne]
      simp only [this]
      exact ih
theorem ix_enc {best : Best} {p : Int × Row} (nd : (best.map (·.1)).Nodup) (h : p ∈ best) : gIxA (.dict (encB best)) (.int p.1) = some (encR p.2) := by
  show (match dGet (encB best) (.int p.1) with | some (some z) => some z | _ => none) = _
  have : dGet (encB best) (.int p.1) = some (some (encR p.2)) := by
    show (if dkB (encB best) = true then some (getE toKey (.inl p.1) (encB best)) else none) = _
    rw [dk_enc, get_enc nd h]
    rfl
  rw [this]
theorem it_enc (best : Best) : itA (.dict (encB best)) = some (best.map fun p => .int p.1) := by
  show (if dkB (encB best) = true then some ((encB best).map (·.1)) else none) = _
  rw [dk_enc]
  simp [encB]
theorem put_new : ∀ {es : Best} {b : Int} {r : Row}, b ∉ es.map (·.1) → putE toKey keyD (.inl b) (encR r) (encB es) = encB (es ++ [(b, r)]) := by
  intro es b r h
  unfold putE
  have : ((encB es).any fun p => decide (toKey p.1 = some (.inl b : Key))) = false := by
    unfold encB
    rw [List.any_map, List.any_eq_false]
    intro p hp
    have : p.1 ≠ b := fun e => h (e ▸ List.mem_map.mpr ⟨p, hp, rfl⟩)
    simp [toKey, this]
  rw [this]
  simp [encB, keyD]
theorem tru_enc (best : Best) : truthE (.dict (encB best)) = some (decide (best ≠ [])) := by
  cases best with
  | nil => rfl
  | cons p r => rfl
theorem nm_nodup (h : Int) : (nm h).Nodup := by
  unfold nm
  exact List.Nodup.sublist List.filter_sublist (by decide)
theorem nm_len (h : Int) : (nm h).length ≤ 4 := List.length_filter_le _ _
theorem at_zero {α : Type} (x : α) (l : List α) : atI (x :: l) 0 = some x := atI_nat (x :: l) 0
theorem at_one {α : Type} (x y : α) (l : List α) : atI (x :: y :: l) 1 = some y := by
  have := atI_nat (x :: y :: l) 1
  simpa using this
theorem cut_tail {α : Type} (x : α) (l : List α) : cutA (x :: l) (some 1) none = l := by
  unfold cutA HT.sIx
  simp
@[simp] theorem atR0 (r : Row) : gIxA (encR r) (.int 0) = some (.int r.1) := rfl
@[simp] theorem atR1 (r : Row) : gIxA (encR r) (.int 1) = some (.tuple (r.2.map .int)) := rfl
def Fl (s : SV) : Prop := s = .no ∨ ∃ d, s = .val d
/-- the slots of fewest_changes -/
def slF (hs : List Int) (s1 s2 s3 s4 s5 s6 : SV) : Rho := [.val (.tuple (hs.map .int)), s1, s2, s3, s4, s5, s6, .no]
def BestIs (s : SV) (best : Best) : Prop := s = .val (.dict (encB best)) ∨ s = .lst (.dk (encB best))
abbrev tgF : Tgt := gT 2 (gsC (gN 4) (gsC (gN 5) gsN))
abbrev rowE : M R := mTup (mCons (mOp2 gAdd (mOp2 gIxA (mOp2 gIxA (mVar 1) (mVar 7)) (mConst (.int 0))) (mOpN gInt (mCons (mOp2 gNe (mVar 7) (mVar 4)) (mNil)))) (mCons (mOp2 gAdd (mOp2 gIxA (mOp2 gIxA (mVar 1) (mVar 7)) (mConst (.int 1))) (mTup (mCons (mVar 4) (mNil)))) (mNil)))
theorem rows_of {hs : List Int} {best : Best} {h b : Int} {s3 s5 s6 : SV} (nd : (best.map (·.1)).Nodup) (hl : ∀ p ∈ best, p.2.2.length ≤ 64) :
    lcLoop [7] (gN 7) mYes (mFrz rowE) (best.map fun p => .int p.1) (slF hs (.val (.dict (encB best))) (.val (.int h)) s3 (.val (.int b)) s5 s6) = .ok ((best.map (ext b)).map encR) (slF hs (.val (.dict (encB best))) (.val (.int h)) s3 (.val (.int b)) s5 s6) := by
  have z := lc_map (own := [7]) (t := gN 7) (mt := mYes) (me := mFrz rowE) (ρ := slF hs (.val (.dict (encB best))) (.val (.int h)) s3 (.val (.int b)) s5 s6) (fun p : Int × Row => PyData.int p.1) (fun p => some (encR (ext b p))) best fun p hp => by
    have e1 := ix_enc nd hp
    have e2 := hl p hp
    have e3 : p.2.2.length + 1 ≤ 16777216 := by omega
    simp [lcStep, wipeR, unwipe, slF, rowE, e1, e3]
    unfold encR ext
    by_cases hb : p.1 = b <;> simp [hb]
  rw [z, filterMap_all, List.map_map]
  rfl
abbrev innerB : MS := sSeq (sAsg (mNew (mLc [7] (mIt itA (mVar 1)) (gN 7) (mYes) rowE)) (gN 6))
  (sIf (mTru (mVar 6)) (sSetI "dict" 3 gSetA (mVar 4) (mOpN gMin (mCons (mVar 6) (mNil)))) (sNext))
theorem bestOf {s : SV} {best : Best} (h : BestIs s best) : ∀ i, s ≠ .iol i := by
  rcases h with rfl | rfl <;> (intro i e; cases e)
def putB (best : Best) (made : Best) (b : Int) : Best := if best = [] then made else made ++ [(b, minL (best.map (ext b)))]
theorem inner_of {hs : List Int} {best made : Best} {h b : Int} {s1 s4 s5 s6 : SV} (nd : (best.map (·.1)).Nodup) (hl : ∀ p ∈ best, p.2.2.length ≤ 64) (hb : best.length ≤ 4) (hm : made.length ≤ 8) (hn : b ∉ made.map (·.1)) (h1 : BestIs s1 best) (h4 : Fl s4) (h5 : Fl s5) (h6 : Fl s6) :
    ∃ ρ1 s6', tgF (named h b) (slF hs s1 (.val (.int h)) (.lst (.dk (encB made))) s4 s5 s6) = some ρ1 ∧ Fl s6' ∧ innerB ρ1 = .nx (slF hs (.val (.dict (encB best))) (.val (.int h)) (.lst (.dk (encB (putB best made b)))) (.val (.int b)) (.val (syl (h - b))) s6') := by
  have e1 : (encB made).length ≤ 16777215 := by unfold encB; rw [List.length_map]; omega
  have e1' : (encB made).length < 16777216 := by omega
  have e2 : best.length ≤ 16777216 := by omega
  have e3 : ∀ r, putE toKey keyD (.inl b) (encR r) (encB made) = encB (made ++ [(b, r)]) := fun r => put_new hn
  have er := fun s3 s5 s6 => rows_of (hs := hs) (h := h) (b := b) (s3 := s3) (s5 := s5) (s6 := s6) nd hl
  simp only [slF] at er
  refine ⟨slF hs s1 (.val (.int h)) (.lst (.dk (encB made))) (.val (.int b)) (.val (syl (h - b))) s6, .val (.list ((best.map (ext b)).map encR)), ?_, .inr ⟨_, rfl⟩, ?_⟩
  · rcases h4 with rfl | ⟨d, rfl⟩ <;> rcases h5 with rfl | ⟨d, rfl⟩ <;> simp [slF, named]
  · have fin : ∀ ρ, (sIf (mTru (mVar 6)) (sSetI "dict" 3 gSetA (mVar 4) (mOpN gMin (mCons (mVar 6) (mNil)))) (sNext)) (slF hs (.val (.dict (encB best))) (.val (.int h)) (.lst (.dk (encB made))) (.val (.int b)) (.val (syl (h - b))) (.val (.list ((best.map (ext b)).map encR)))) = .nx ρ → innerB (slF hs s1 (.val (.int h)) (.lst (.dk (encB made))) (.val (.int b)) (.val (syl (h - b))) s6) = .nx ρ := fun ρ q => by
      unfold innerB
      rw [sSeq_run]
      rcases h1 with rfl | rfl <;> rcases h6 with rfl | ⟨d, rfl⟩ <;>
      · simp [slF, it_enc, e2, er] at q ⊢
        exact q
    refine fin _ ?_
    cases best with
    | nil => simp [slF, putB]
    | cons p r =>
      have em := gMin_rows (ext b p) (r.map (ext b))
      simp only [← List.map_cons] at em
      have eg : ∀ d, gSetA (.dk (encB made)) (.int b) d = some (.dk (putE toKey keyD (.inl b) d (encB made))) := fun d => by
        show (if decide ((encB made).length < 16777216) = true then some (Box.dk (putE toKey keyD (.inl b) d (encB made))) else none) = _
        rw [decide_eq_true e1']; rfl
      have et : tyBox "dict" (.dk (encB made)) = true := rfl
      simp [slF, putB, minL] at em ⊢
      simp [em, eg, et, e3]
theorem inner_loop {hs : List Int} {best : Best} {h : Int} (nd : (best.map (·.1)).Nodup) (hl : ∀ p ∈ best, p.2.2.length ≤ 64) (hb : best.length ≤ 4) : ∀ (bs : List Int) {made : Best} {s1 s4 s5 s6 : SV}, bs.Nodup → made.length + bs.length ≤ 8 → (∀ b ∈ bs, b ∉ made.map (·.1)) → BestIs s1 best → Fl s4 → Fl s5 → Fl s6 →
    ∃ s1' s4' s5' s6', BestIs s1' best ∧ Fl s4' ∧ Fl s5' ∧ Fl s6' ∧ sLoop tgF innerB (bs.map (named h)) (slF hs s1 (.val (.int h)) (.lst (.dk (encB made))) s4 s5 s6) = .nx (slF hs s1' (.val (.int h)) (.lst (.dk (encB (bs.foldl (putB best) made)))) s4' s5' s6')
  | [], made, s1, s4, s5, s6, _, _, _, h1, h4, h5, h6 => ⟨s1, s4, s5, s6, h1, h4, h5, h6, rfl⟩
  | b :: bs, made, s1, s4, s5, s6, n, hm, hn, h1, h4, h5, h6 => by
    rw [List.nodup_cons] at n
    rw [List.length_cons] at hm
    obtain ⟨ρ1, s6', q1, q2, q3⟩ := inner_of (hs := hs) (h := h) nd hl hb (by omega) (hn b List.mem_cons_self) h1 h4 h5 h6
    have hm2 : (putB best made b).length ≤ made.length + 1 := by unfold putB; split <;> simp
    have hn2 : ∀ c ∈ bs, c ∉ (putB best made b).map (·.1) := fun c hc z => by
      unfold putB at z
      split at z
      · exact hn c (List.mem_cons_of_mem _ hc) z
      · rw [List.map_append, List.mem_append] at z
        rcases z with z | z
        · exact hn c (List.mem_cons_of_mem _ hc) z
        · simp at z; subst z; exact n.1 hc
    obtain ⟨t1, t4, t5, t6, w1, w4, w5, w6, e⟩ := inner_loop nd hl hb bs (made := putB best made b) (s1 := .val (.dict (encB best))) (s4 := .val (.int b)) (s5 := .val (syl (h - b))) (s6 := s6') n.2 (by omega) hn2 (.inl rfl) (.inr ⟨_, rfl⟩) (.inr ⟨_, rfl⟩) q2
    refine ⟨t1, t4, t5, t6, w1, w4, w5, w6, ?_⟩
    rw [List.map_cons]
    unfold sLoop
    rw [q1]
    dsimp only
    rw [q3]
    exact e
theorem fold_put (best : Best) : ∀ (bs : List Int) (made : Best), bs.foldl (putB best) made = if best = [] then made else made ++ bs.map fun b => (b, minL (best.map (ext b)))
  | [], made => by simp
  | b :: bs, made => by
    rw [List.foldl_cons, fold_put best bs]
    unfold putB
    by_cases h : best = []
    · simp [h]
    · simp [h]
abbrev outerB : MS := sSeq (sSetB 3 (mPure (.dk [])))
  (sSeq (sFor (mIt itA (mCall f_names_of 1 (mCons (mVar 2) (mNil)))) tgF innerB)
  (sAsg (mVar 3) (gN 1)))
theorem outer_of {hs : List Int} {best : Best} {h : Int} {s1 s2 s3 s4 s5 s6 : SV} (nd : (best.map (·.1)).Nodup) (hl : ∀ p ∈ best, p.2.2.length ≤ 64) (hb : best.length ≤ 4) (h1 : BestIs s1 best) (h2 : Fl s2) (h3 : Fl s3) (h4 : Fl s4) (h5 : Fl s5) (h6 : Fl s6) :
    ∃ ρ1 s3' s4' s5' s6', Fl s3' ∧ Fl s4' ∧ Fl s5' ∧ Fl s6' ∧ gN 2 (.int h) (slF hs s1 s2 s3 s4 s5 s6) = some ρ1 ∧ outerB ρ1 = .nx (slF hs (.val (.dict (encB (stepB best h)))) (.val (.int h)) s3' s4' s5' s6') := by
  obtain ⟨t1, t4, t5, t6, w1, w4, w5, w6, e⟩ := inner_loop (hs := hs) (h := h) nd hl hb (nm h) (made := []) (s1 := s1) (s4 := s4) (s5 := s5) (s6 := s6) (nm_nodup h) (by have := nm_len h; simp; omega) (fun b _ z => by simp at z) h1 h4 h5 h6
  rw [fold_put] at e
  have es : (if best = [] then [] else [] ++ (nm h).map fun b => (b, minL (best.map (ext b)))) = stepB best h := by
    unfold stepB; simp
  rw [es] at e
  refine ⟨slF hs s1 (.val (.int h)) s3 s4 s5 s6, .val (.dict (encB (stepB best h))), t4, t5, t6, .inr ⟨_, rfl⟩, w4, w5, w6, ?_, ?_⟩
  · rcases h2 with rfl | ⟨d, rfl⟩ <;> simp [slF]
  · have hi := bestOf w1
    have e0 : encB [] = [] := rfl
    rw [e0] at e
    simp only [slF] at e
    rcases h3 with rfl | ⟨d, rfl⟩ <;> rcases w1 with rfl | rfl <;> simp [slF, c_names, e]
end K20

set_option Elab.async false
set_option linter.all false
set_option autoImplicit false
set_option maxRecDepth 100000
set_option maxHeartbeats 4000000
namespace K20
open PySem PySem.Spec PyProof.Rows L2 VL
structure WF (best : Best) (k : Nat) : Prop where
  nd : (best.map (·.1)).Nodup
  len : ∀ p ∈ best, p.2.2.length = k
  few : best.length ≤ 4
theorem wf_init (h : Int) : WF (initB h) 1 := by
  refine ⟨?_, fun p hp => ?_, ?_⟩
  · unfold initB
    rw [List.map_map]
    show ((nm h).map fun b => b).Nodup
    rw [List.map_id']; exact nm_nodup h
  · unfold initB at hp
    obtain ⟨b, _, rfl⟩ := List.mem_map.mp hp
    rfl
  · unfold initB; rw [List.length_map]; exact nm_len h
theorem minL_mem {l : List Row} (h : l ≠ []) : minL l ∈ l := by
  cases l with
  | nil => exact absurd rfl h
  | cons x r => exact (minR_spec x r).1
theorem minL_le {l : List Row} {y : Row} (h : y ∈ l) : rLe (minL l) y := by
  cases l with
  | nil => cases h
  | cons x r => exact (minR_spec x r).2 y h
theorem wf_step {best : Best} {k : Nat} (w : WF best k) (h : Int) : WF (stepB best h) (k + 1) := by
  unfold stepB
  by_cases hb : best = []
  · rw [if_pos hb]; exact ⟨by simp, fun p hp => by simp at hp, by simp⟩
  · rw [if_neg hb]
    refine ⟨?_, fun p hp => ?_, by rw [List.length_map]; exact nm_len h⟩
    · rw [List.map_map]
      show ((nm h).map fun b => b).Nodup
      rw [List.map_id']; exact nm_nodup h
    · obtain ⟨b, _, rfl⟩ := List.mem_map.mp hp
      have := minL_mem (l := best.map (ext b)) (by simpa using hb)
      obtain ⟨q, hq, e⟩ := List.mem_map.mp this
      show (minL (best.map (ext b))).2.length = k + 1
      rw [← e]
      unfold ext
      simp [w.len q hq]
theorem outer_loop {hs : List Int} : ∀ (l : List Int) {best : Best} {k : Nat} {s1 s2 s3 s4 s5 s6 : SV}, WF best k → k + l.length ≤ 60 → BestIs s1 best → Fl s2 → Fl s3 → Fl s4 → Fl s5 → Fl s6 →
    ∃ s1' s2' s3' s4' s5' s6', BestIs s1' (l.foldl stepB best) ∧ Fl s2' ∧ Fl s3' ∧ Fl s4' ∧ Fl s5' ∧ Fl s6' ∧ sLoop (gN 2) outerB (l.map .int) (slF hs s1 s2 s3 s4 s5 s6) = .nx (slF hs s1' s2' s3' s4' s5' s6')
  | [], best, k, s1, s2, s3, s4, s5, s6, _, _, h1, h2, h3, h4, h5, h6 => ⟨s1, s2, s3, s4, s5, s6, h1, h2, h3, h4, h5, h6, rfl⟩
  | h :: l, best, k, s1, s2, s3, s4, s5, s6, w, hk, h1, h2, h3, h4, h5, h6 => by
    rw [List.length_cons] at hk
    obtain ⟨ρ1, t3, t4, t5, t6, w3, w4, w5, w6, e1, e2⟩ := outer_of (hs := hs) (h := h) (s1 := s1) w.nd (fun p hp => by rw [w.len p hp]; omega) w.few h1 h2 h3 h4 h5 h6
    obtain ⟨u1, u2, u3, u4, u5, u6, v1, v2, v3, v4, v5, v6, e⟩ := outer_loop (hs := hs) l (wf_step w h) (by omega) (s1 := .val (.dict (encB (stepB best h)))) (.inl rfl) (.inr ⟨_, rfl⟩) w3 w4 w5 w6
    refine ⟨u1, u2, u3, u4, u5, u6, v1, v2, v3, v4, v5, v6, ?_⟩
    rw [List.map_cons]
    unfold sLoop
    rw [e1]
    dsimp only
    rw [e2]
    exact e
theorem dc_init {hs : List Int} (h : Int) : ∀ (bs : List Int) (made : Best), (∀ b ∈ bs, b ∉ made.map (·.1)) → bs.Nodup →
    dcLoop [4, 5] tgF mYes (mFrz (mVar 4)) (mFrz (mTup (mCons (mConst (.int 0)) (mCons (mTup (mCons (mVar 4) (mNil))) (mNil))))) (bs.map (named h)) (encB made) (slF hs .no .no .no .no .no .no) = .ok (encB (made ++ bs.map fun b => (b, (0, [b])))) (slF hs .no .no .no .no .no .no)
  | [], made, _, _ => by simp [dcLoop]
  | b :: bs, made, hn, nd => by
    rw [List.nodup_cons] at nd
    have ih := dc_init (hs := hs) h bs (made ++ [(b, (0, [b]))]) (fun c hc z => by
      rw [List.map_append, List.mem_append] at z
      rcases z with z | z
      · exact hn c (List.mem_cons_of_mem _ hc) z
      · simp at z; subst z; exact nd.1 hc) nd.2
    have e3 : putE toKey keyD (.inl b) (.tuple [.int 0, .tuple [.int b]]) (encB made) = encB (made ++ [(b, (0, [b]))]) := put_new (r := (0, [b])) (hn b List.mem_cons_self)
    have tk : toKey (.int b) = some (.inl b : Key) := rfl
    simp only [slF] at ih
    rw [List.map_cons]
    unfold dcLoop
    simp [slF, wipeR, unwipe, named, tk, e3, ih]
def fewD : List Int → PyData
  | [] => .tuple [.int 0, .tuple []]
  | h :: r => if r.foldl stepB (initB h) = [] then .none else encR (minL ((r.foldl stepB (initB h)).map (·.2)))
theorem foldl_wf : ∀ (r : List Int) {best : Best} {k : Nat}, WF best k → WF (r.foldl stepB best) (k + r.length)
  | [], _, _, w => w
  | h :: r, best, k, w => by
    have := foldl_wf r (wf_step w h)
    rw [List.foldl_cons, List.length_cons]
    rw [show k + (r.length + 1) = k + 1 + r.length by omega]
    exact this
theorem mDc_run {own : List Nat} {mi : M (List PyData)} {t : Tgt} {mt : M Bool} {mk mv : M R} {ρ : Rho} : mDc own mi t mt mk mv ρ = (match mi ρ with | .ok l ρ' => (if lenOk l = true then (match dcLoop own t mt (mFrz mk) (mFrz mv) l [] ρ' with | .ok es ρ' => .ok (.dk es) ρ' | _ => .bad) else .bad) | .exc x ρ' => .exc x ρ' | .bad => .bad) := by
  show mBind _ _ ρ = _
  rw [mBind_run]
  cases mi ρ with
  | bad => rfl
  | exc _ _ => rfl
  | ok l ρ' => rfl
theorem s_few (hs : List Int) (hl : hs.length ≤ 50) : ans (f_fewest_changes [.val (.tuple (hs.map .int))]) = some (fewD hs) := by
  cases hs with
  | nil => rfl
  | cons h r =>
    rw [List.length_cons] at hl
    have e1 := dc_init (hs := h :: r) h (nm h) [] (fun b _ z => by simp at z) (nm_nodup h)
    obtain ⟨u1, u2, u3, u4, u5, u6, v1, v2, v3, v4, v5, v6, e2⟩ := outer_loop (hs := h :: r) r (wf_init h) (by omega) (s1 := .lst (.dk (encB (initB h)))) (.inr rfl) (.inl rfl) (.inl rfl) (.inl rfl) (.inl rfl) (.inl rfl)
    have w := foldl_wf r (wf_init h)
    have ef : fewD (h :: r) = if r.foldl stepB (initB h) = [] then .none else encR (minL ((r.foldl stepB (initB h)).map (·.2))) := rfl
    rw [ef]
    generalize r.foldl stepB (initB h) = best at *
    have e3 : encB ([] ++ (nm h).map fun b => (b, (0, [b]))) = encB (initB h) := rfl
    rw [e3] at e1
    have e0 : encB [] = [] := rfl
    rw [e0] at e1
    have lc := fun s2 s3 s5 s6 => lc_map (own := [4]) (t := gN 4) (mt := mYes) (me := mFrz (mOp2 gIxA (mVar 1) (mVar 4))) (ρ := slF (h :: r) (.val (.dict (encB best))) s2 s3 u4 s5 s6) (fun p : Int × Row => PyData.int p.1) (fun p => some (encR p.2)) best fun p hp => by
      have := ix_enc w.nd hp
      rcases v4 with rfl | ⟨d, rfl⟩ <;> simp [lcStep, wipeR, unwipe, slF, this]
    have hb : best.length ≤ 16777216 := by have := w.few; omega
    have hn : (nm h).length ≤ 16777216 := by have := nm_len h; omega
    have fm : best.filterMap (fun p => some (encR p.2)) = (best.map (·.2)).map encR := by rw [filterMap_all, List.map_map]; rfl
    simp only [slF, List.map_cons] at e1 e2 lc
    have fin : ∀ s1, BestIs s1 best → ans ((sRet (mIf (mTru (mVar 1)) (mOpN gMin (mCons (mNew (mLc [4] (mIt itA (mVar 1)) (gN 4) (mYes) (mOp2 gIxA (mVar 1) (mVar 4)))) (mNil))) (mConst .none))) (slF (h :: r) s1 u2 u3 u4 u5 u6)) = some (if best = [] then .none else encR (minL (best.map (·.2)))) := fun s1 hs1 => by
      cases best with
      | nil => rcases hs1 with rfl | rfl <;> simp [slF, tru_enc, ans]
      | cons p q =>
        have em := gMin_rows p.2 (q.map (·.2))
        have l1 := lc u2 u3 u5 u6
        rw [fm] at l1
        simp only [List.map_cons] at l1 em
        have hb' : q.length ≤ 16777215 := by simpa using hb
        rcases hs1 with rfl | rfl <;>
        · simp [-List.map_map, slF, tru_enc, it_enc, hb', l1, em, ans, minL]
    have fin := fin u1 v1
    rw [← fin]
    unfold f_fewest_changes fnM m_fewest_changes
    simp only [sSeq_run]
    have z1 : truthE (.tuple (.int h :: r.map .int)) = some true := rfl
    have z2 := at_zero (PyData.int h) (r.map .int)
    have z3 := cut_tail (PyData.int h) (r.map .int)
    simp [List.replicate, z1, z2, c_names, mDc_run, hn, e1, gSl, z3, e2, slF]
end K20

set_option Elab.async false
set_option linter.all false
set_option autoImplicit false
set_option maxRecDepth 100000
set_option maxHeartbeats 4000000
namespace K20
open PySem PySem.Spec PyProof.Rows L2 VL
/-- a row of bases that sings the heights -/
def Sg : List Int → List Int → Prop
  | [], [] => True
  | h :: hs, b :: bs => b ∈ nm h ∧ Sg hs bs
  | _, _ => False
def cost : List Int → Int
  | a :: b :: r => (if a = b then 0 else 1) + cost (b :: r)
  | _ => 0
theorem sg_len : ∀ {hs bs : List Int}, Sg hs bs → bs.length = hs.length
  | [], [], _ => rfl
  | h :: hs, b :: bs, z => congrArg (· + 1) (sg_len z.2)
  | [], _ :: _, z => z.elim
  | _ :: _, [], z => z.elim
theorem sg_snoc {h b : Int} : ∀ {hs bs : List Int}, Sg hs bs → b ∈ nm h → Sg (hs ++ [h]) (bs ++ [b])
  | [], [], _, hb => ⟨hb, trivial⟩
  | _ :: _, _ :: _, z, hb => ⟨z.1, sg_snoc z.2 hb⟩
  | [], _ :: _, z, _ => z.elim
  | _ :: _, [], z, _ => z.elim
theorem sg_unsnoc {h : Int} : ∀ {hs bs : List Int}, Sg (hs ++ [h]) bs → ∃ t b, bs = t ++ [b] ∧ Sg hs t ∧ b ∈ nm h
  | [], [b], z => ⟨[], b, rfl, trivial, z.1⟩
  | [], [], z => z.elim
  | [], _ :: _ :: _, z => z.2.elim
  | _ :: _, [], z => z.elim
  | x :: hs, c :: bs, z => by
    obtain ⟨t, b, e, h1, h2⟩ := sg_unsnoc (hs := hs) (bs := bs) z.2
    exact ⟨c :: t, b, by rw [e]; rfl, ⟨z.1, h1⟩, h2⟩
theorem cost_snoc : ∀ (t : List Int) (a b : Int), cost (t ++ [a] ++ [b]) = cost (t ++ [a]) + (if a = b then 0 else 1)
  | [], a, b => by simp [cost]
  | [x], a, b => by simp [cost]
  | x :: y :: t, a, b => by
    have ih := cost_snoc (y :: t) a b
    show (if x = y then (0 : Int) else 1) + cost (y :: t ++ [a] ++ [b]) = (if x = y then (0 : Int) else 1) + cost (y :: t ++ [a]) + _
    rw [ih]
    omega
theorem lt_snoc {b : Int} : ∀ {s t : List Int}, s.length = t.length → s ++ [b] < t ++ [b] → s < t
  | [], [], _, h => absurd h (List.lt_irrefl _)
  | x :: s, y :: t, hl, h => by
    simp only [List.cons_append] at h
    rw [List.cons_lt_cons_iff] at h ⊢
    rcases h with h | ⟨h1, h2⟩
    · exact .inl h
    · exact .inr ⟨h1, lt_snoc (by simpa using hl) h2⟩
  | [], _ :: _, hl, _ => by simp at hl
  | _ :: _, [], hl, _ => by simp at hl
theorem rLe_snoc {c c' δ b : Int} {s t : List Int} (hl : s.length = t.length) (h : rLe (c, s) (c', t)) : rLe (c + δ, s ++ [b]) (c' + δ, t ++ [b]) := by
  rintro (z | ⟨z1, z2⟩)
  · refine h (.inl ?_)
    have z : c' + δ < c + δ := z
    show c' < c
    omega
  · refine h (.inr ⟨?_, lt_snoc hl.symm z2⟩)
    have z1 : c' + δ = c + δ := z1
    show c' = c
    omega
structure Opt (best : Best) (hs : List Int) : Prop where
  ok : ∀ p ∈ best, (∃ t, p.2.2 = t ++ [p.1]) ∧ Sg hs p.2.2 ∧ p.2.1 = cost p.2.2
  all : ∀ bs, Sg hs bs → ∃ p ∈ best, (∃ t, bs = t ++ [p.1]) ∧ rLe p.2 (cost bs, bs)
theorem opt_init (h : Int) : Opt (initB h) [h] := by
  refine ⟨fun p hp => ?_, fun bs hb => ?_⟩
  · obtain ⟨b, hb, rfl⟩ := List.mem_map.mp hp
    exact ⟨⟨[], rfl⟩, ⟨hb, trivial⟩, rfl⟩
  · match bs, hb with
    | [b], hb => exact ⟨(b, (0, [b])), List.mem_map.mpr ⟨b, hb.1, rfl⟩, ⟨[], rfl⟩, rLe_refl _⟩
    | [], hb => exact hb.elim
    | _ :: _ :: _, hb => exact hb.2.elim
theorem opt_step {best : Best} {hs : List Int} (o : Opt best hs) (h : Int) : Opt (stepB best h) (hs ++ [h]) := by
  refine ⟨fun p hp => ?_, fun bs hb => ?_⟩
  · unfold stepB at hp
    by_cases hbest : best = []
    · rw [if_pos hbest] at hp; cases hp
    · rw [if_neg hbest] at hp
      obtain ⟨b, hb, rfl⟩ := List.mem_map.mp hp
      have hm := minL_mem (l := best.map (ext b)) (by simpa using hbest)
      obtain ⟨q, hq, e⟩ := List.mem_map.mp hm
      obtain ⟨⟨t, h1⟩, h2, h3⟩ := o.ok q hq
      dsimp only
      rw [← e]
      refine ⟨⟨q.2.2, rfl⟩, sg_snoc h2 hb, ?_⟩
      show q.2.1 + (if q.1 = b then 0 else 1) = cost (q.2.2 ++ [b])
      rw [h3, h1, cost_snoc]
  · obtain ⟨t, b, rfl, h1, h2⟩ := sg_unsnoc hb
    obtain ⟨p, hp, ⟨t', e⟩, hle⟩ := o.all t h1
    have hne : best ≠ [] := fun z => by rw [z] at hp; cases hp
    refine ⟨(b, minL (best.map (ext b))), ?_, ⟨t, rfl⟩, ?_⟩
    · unfold stepB
      rw [if_neg hne]
      exact List.mem_map.mpr ⟨b, h2, rfl⟩
    · refine rLe_tr (minL_le (List.mem_map.mpr ⟨p, hp, rfl⟩)) ?_
      have hl : p.2.2.length = t.length := by rw [sg_len (o.ok p hp).2.1, sg_len h1]
      have z := rLe_snoc (δ := if p.1 = b then 0 else 1) (b := b) hl (c := p.2.1) (c' := cost t) hle
      have ec : cost (t ++ [b]) = cost t + (if p.1 = b then 0 else 1) := by rw [e, cost_snoc]
      rw [ec]
      exact z
theorem opt_fold : ∀ (r : List Int) {best : Best} {hs : List Int}, Opt best hs → Opt (r.foldl stepB best) (hs ++ r)
  | [], best, hs, o => by simpa using o
  | h :: r, best, hs, o => by
    have := opt_fold r (opt_step o h)
    simpa using this
theorem sg_some : ∀ {hs : List Int}, (∀ h ∈ hs, nm h ≠ []) → ∃ bs, Sg hs bs
  | [], _ => ⟨[], trivial⟩
  | h :: hs, z => by
    obtain ⟨bs, e⟩ := sg_some (hs := hs) fun x hx => z x (List.mem_cons_of_mem _ hx)
    cases q : nm h with
    | nil => exact absurd q (z h List.mem_cons_self)
    | cons b r => exact ⟨b :: bs, by rw [q]; exact List.mem_cons_self, e⟩
theorem sg_mem : ∀ {hs bs : List Int}, Sg hs bs → ∀ h ∈ hs, nm h ≠ []
  | [], [], _, h, hh => by cases hh
  | x :: hs, b :: bs, z, h, hh => by
    rcases List.mem_cons.mp hh with rfl | hh
    · intro e; have z1 := z.1; rw [e] at z1; cases z1
    · exact sg_mem z.2 h hh
  | [], _ :: _, z, _, _ => z.elim
  | _ :: _, [], z, _, _ => z.elim
/-- what fewest_changes tells -/
theorem few_spec (hs : List Int) : (fewD hs = .none ∧ ∃ h ∈ hs, nm h = []) ∨ ∃ c s, fewD hs = encR (c, s) ∧ Sg hs s ∧ c = cost s ∧ (∀ h ∈ hs, nm h ≠ []) ∧ ∀ bs, Sg hs bs → rLe (c, s) (cost bs, bs) := by
  cases hs with
  | nil =>
    refine .inr ⟨0, [], rfl, trivial, rfl, fun h hh => (by cases hh), fun bs hb => ?_⟩
    match bs, hb with
    | [], _ => exact rLe_refl _
  | cons h r =>
    have o := opt_fold r (opt_init h)
    have ef : fewD (h :: r) = if r.foldl stepB (initB h) = [] then .none else encR (minL ((r.foldl stepB (initB h)).map (·.2))) := rfl
    rw [ef]
    have eh : [h] ++ r = h :: r := rfl
    rw [eh] at o
    generalize r.foldl stepB (initB h) = best at *
    by_cases hb : best = []
    · refine .inl ⟨by rw [if_pos hb], ?_⟩
      apply Classical.byContradiction
      intro z
      obtain ⟨bs, e⟩ := sg_some (hs := h :: r) fun x hx e => z ⟨x, hx, e⟩
      obtain ⟨p, hp, _⟩ := o.all bs e
      rw [hb] at hp
      cases hp
    · have hm := minL_mem (l := best.map (·.2)) (by simpa using hb)
      obtain ⟨p, hp, e⟩ := List.mem_map.mp hm
      obtain ⟨_, h2, h3⟩ := o.ok p hp
      refine .inr ⟨p.2.1, p.2.2, by rw [if_neg hb, ← e], h2, h3, sg_mem h2, fun bs hb => ?_⟩
      obtain ⟨q, hq, _, hle⟩ := o.all bs hb
      refine rLe_tr ?_ hle
      show rLe p.2 q.2
      rw [show p.2 = minL (best.map (·.2)) from e]
      exact minL_le (List.mem_map.mpr ⟨q, hq, rfl⟩)
end K20

set_option Elab.async false
set_option linter.all false
set_option autoImplicit false
set_option maxRecDepth 100000
set_option maxHeartbeats 1000000
namespace K20
open PySem PySem.Spec PyProof.Rows L2 VL
theorem mem_nm {h b : Int} : b ∈ nm h ↔ b ∈ B4 ∧ h - b ∈ H6 := by simp [nm]
def pr (p : Int × Int) : PyData := .tuple [.int p.1, .int p.2]
theorem zip_ints : ∀ (bs hs : List Int), zipD (bs.map .int) (hs.map .int) = (bs.zip hs).map pr
  | [], _ => by simp [zipD]
  | _ :: _, [] => by simp [zipD]
  | b :: bs, h :: hs => by simp [zipD, zip_ints bs hs, pr]
theorem c_few {hs : List Int} (hl : hs.length ≤ 50) (ρ : Rho) : callD f_fewest_changes 1 [.v (.tuple (hs.map .int))] ρ = .ok (.v (fewD hs)) ρ := callV1 (s_few hs hl)
def syls (bs hs : List Int) : List PyData := (bs.zip hs).map fun p => syl (p.2 - p.1)
theorem s_sung0 {hs : List Int} (hl : hs.length ≤ 50) (e : fewD hs = .none) : ans (f_sung [.val (.tuple (hs.map .int))]) = some .none := by
  have z := c_few hl
  rw [e] at z
  simp [f_sung, fnM, m_sung, List.replicate, z, ans]
theorem itZ_tt {l k : List PyData} : itZ [.tuple l, .tuple k] = some (zipD l k) := rfl
theorem encR_tt {c : Int} {s : List Int} : encR (c, s) = .tuple [.int c, .tuple (s.map .int)] := rfl
theorem s_sung1 {hs s : List Int} {c : Int} (hl : hs.length ≤ 50) (hs' : s.length = hs.length) (e : fewD hs = encR (c, s)) : ans (f_sung [.val (.tuple (hs.map .int))]) = some (.tuple (syls s hs)) := by
  have z := c_few hl
  rw [e] at z
  have l := lc_map (own := [2, 3]) (t := gT 2 (gsC (gN 2) (gsC (gN 3) (gsN)))) (mt := mYes) (me := mFrz (mCall f_syllable_of 2 (mCons (mVar 2) (mCons (mVar 3) (mNil))))) (ρ := [.val (.tuple (hs.map .int)), .val (encR (c, s)), .no, .no]) pr (fun p => some (syl (p.2 - p.1))) (s.zip hs) fun p _ => by
    simp [lcStep, wipeR, unwipe, c_syl, pr]
  rw [filterMap_all, ← zip_ints] at l
  have len : (zipD (s.map .int) (hs.map .int)).length ≤ 16777216 := by rw [zipD_length]; simp; omega
  simp [f_sung, fnM, m_sung, List.replicate, z, ans, encR_tt, at_one, itZ_tt, l, syls] at l ⊢
  simp [l, len]
theorem rg_small {i : Int} (h1 : -1000 < i) (h2 : i < 1000) : rgOk i = true := decide_eq_true (by omega)
theorem r2_small {i j : Int} (h1 : -1000 < i) (h2 : i < 1000) (h3 : -1000 < j) (h4 : j < 1000) : itR2 [.int i, .int j] = some (rangeD i (j - i).toNat) := by
  show (if (rgOk i && rgOk j) = true then _ else _) = _
  rw [rg_small h1 h2, rg_small h3 h4]
  rfl
theorem r1_small {i : Int} (h1 : -1000 < i) (h2 : i < 1000) : itR1 [.int i] = some (rangeD 0 i.toNat) := by
  show (if rgOk i = true then _ else _) = _
  rw [rg_small h1 h2]
  rfl
theorem rangeD_len {i : Int} {n : Nat} : (rangeD i n).length = n := by unfold rangeD; rw [List.length_map, List.length_range]
theorem at_ints {l : List Int} {i : Nat} (h : i < l.length) : atI (l.map PyData.int) (i : Int) = some (.int (l[i]?.getD 0)) := by
  rw [VL.atI_nat, List.getElem?_map, List.getElem?_eq_getElem h]
  rfl
theorem cost_count : ∀ (bs : List Int), (((List.range (bs.length - 1)).filter fun i => decide (bs[i + 1]?.getD 0 ≠ bs[i]?.getD 0)).length : Int) = cost bs
  | [] => rfl
  | [x] => rfl
  | x :: y :: r => by
    have ih := cost_count (y :: r)
    have e : (x :: y :: r).length - 1 = ((y :: r).length - 1) + 1 := rfl
    rw [e, List.range_succ_eq_map, List.filter_cons, List.filter_map]
    have e2 : ((fun i => decide ((x :: y :: r)[i + 1]?.getD 0 ≠ (x :: y :: r)[i]?.getD 0)) ∘ Nat.succ) = fun i => decide ((y :: r)[i + 1]?.getD 0 ≠ (y :: r)[i]?.getD 0) := by
      funext i
      simp
    rw [e2]
    show _ = (if x = y then (0 : Int) else 1) + cost (y :: r)
    rw [← ih]
    by_cases h : x = y
    · subst h; simp
    · simp [h, Ne.symm h]; omega
def chL (bs : List Int) : List Nat := (List.range (bs.length - 1)).filter fun i => decide (bs[i + 1]?.getD 0 ≠ bs[i]?.getD 0)
theorem ch_lc (bs : List Int) : lcLoop [1] (gN 1) (mB (mOp2 gNe (mOp2 gIxA (mVar 0) (mVar 1)) (mOp2 gIxA (mVar 0) (mOp2 gSub (mVar 1) (mConst (.int 1)))))) (mFrz (mVar 1)) (rangeD 1 (bs.length - 1)) [.val (.tuple (bs.map .int)), .no] = .ok ((chL bs).map fun i : Nat => PyData.int (1 + (i : Nat))) [.val (.tuple (bs.map .int)), .no] := by
  have l := lc_map (own := [1]) (t := gN 1) (mt := mB (mOp2 gNe (mOp2 gIxA (mVar 0) (mVar 1)) (mOp2 gIxA (mVar 0) (mOp2 gSub (mVar 1) (mConst (.int 1)))))) (me := mFrz (mVar 1)) (ρ := [.val (.tuple (bs.map .int)), .no]) (fun i : Nat => PyData.int (1 + (i : Nat))) (fun i => if bs[i + 1]?.getD 0 ≠ bs[i]?.getD 0 then some (.int (1 + (i : Nat))) else none) (List.range (bs.length - 1)) fun i hi => by
    have hi := List.mem_range.mp hi
    have a1 := at_ints (l := bs) (i := i + 1) (by omega)
    have a2 := at_ints (l := bs) (i := i) (by omega)
    rw [show ((i + 1 : Nat) : Int) = 1 + i by omega] at a1
    rw [show (i : Int) = 1 + i - 1 by omega] at a2
    by_cases h : bs[i + 1]?.getD 0 = bs[i]?.getD 0 <;> simp [lcStep, wipeR, unwipe, a1, a2, h]
  rw [fm_if] at l
  exact l
theorem ch_it {n : Nat} (h : n ≤ 50) : itR2 [.int 1, .int (n : Int)] = some (rangeD 1 (n - 1)) := by
  rw [r2_small (by decide) (by decide) (by omega) (by omega)]
  rw [show ((n : Int) - 1).toNat = n - 1 by omega]
theorem s_changes (bs : List Int) (hl : bs.length ≤ 50) : ans (f_changes_at [.val (.tuple (bs.map .int))]) = some (.tuple ((chL bs).map fun i : Nat => PyData.int (1 + (i : Nat)))) := by
  have er := ch_it hl
  have len : bs.length - 1 ≤ 16777216 := by omega
  simp [f_changes_at, fnM, m_changes_at, List.replicate, ans, er, rangeD_len, len, ch_lc]
theorem ch_len (bs : List Int) : ((chL bs).length : Int) = cost bs := cost_count bs
/-- the first place at which a row of bases is at odds with the heights -/
def jf : List (Int × Int) → Nat → PyData
  | [], _ => .none
  | (b, h) :: r, k => if b ∈ nm h then jf r (k + 1) else .int k
theorem c_not4 (b : Int) : gNotInA (.int b) (.list (B4.map .int)) = some (.bool (!decide (b ∈ B4))) := gNotInA_ints_l b B4
def jB : MS := sIf (mOrT (mB (mOp2 gNotInA (mVar 3) (mCall f_all_bases 0 mNil))) (mB (mOp2 gIs (mCall f_syllable_of 2 (mCons (mVar 3) (mCons (mVar 4) (mNil)))) (mConst .none)))) (sRet (mVar 2)) (sNext)
theorem j_loop {x y : PyData} : ∀ (l : List (Int × Int)) (k : Nat) (s2 s3 s4 : SV), (s2 = .no ∨ ∃ d, s2 = .val d) → (s3 = .no ∨ ∃ d, s3 = .val d) → (s4 = .no ∨ ∃ d, s4 = .val d) →
    (jf l k = .none ∧ ∃ u2 u3 u4, sLoop (gT 2 (gsC (gN 2) (gsC (gT 2 (gsC (gN 3) (gsC (gN 4) (gsN)))) (gsN)))) jB (enumD k (l.map pr)) [.val x, .val y, s2, s3, s4] = .nx [.val x, .val y, u2, u3, u4])
    ∨ ∃ ρ i, jf l k = .int i ∧ sLoop (gT 2 (gsC (gN 2) (gsC (gT 2 (gsC (gN 3) (gsC (gN 4) (gsN)))) (gsN)))) jB (enumD k (l.map pr)) [.val x, .val y, s2, s3, s4] = .rt (jf l k) ρ
  | [], k, s2, s3, s4, _, _, _ => .inl ⟨rfl, s2, s3, s4, rfl⟩
  | (b, h) :: r, k, s2, s3, s4, h2, h3, h4 => by
    have go : gT 2 (gsC (gN 2) (gsC (gT 2 (gsC (gN 3) (gsC (gN 4) (gsN)))) (gsN))) (.tuple [.int k, pr (b, h)]) [.val x, .val y, s2, s3, s4] = some [.val x, .val y, .val (.int k), .val (.int b), .val (.int h)] := by
      rcases h2 with rfl | ⟨_, rfl⟩ <;> rcases h3 with rfl | ⟨_, rfl⟩ <;> rcases h4 with rfl | ⟨_, rfl⟩ <;> rfl
    rw [List.map_cons, enumD]
    unfold sLoop
    rw [go]
    dsimp only
    by_cases hb : b ∈ nm h
    · have e : jB [.val x, .val y, .val (.int k), .val (.int b), .val (.int h)] = .nx [.val x, .val y, .val (.int k), .val (.int b), .val (.int h)] := by
        obtain ⟨b1, b2⟩ := mem_nm.mp hb
        simp [jB, c_all, c_syl, c_not4, b1, b2, syl_no]
      rw [e]
      dsimp only
      have ih := j_loop (x := x) (y := y) r (k + 1) (.val (.int k)) (.val (.int b)) (.val (.int h)) (.inr ⟨_, rfl⟩) (.inr ⟨_, rfl⟩) (.inr ⟨_, rfl⟩)
      rw [show jf ((b, h) :: r) k = jf r (k + 1) from if_pos hb]
      exact ih
    · have e : jB [.val x, .val y, .val (.int k), .val (.int b), .val (.int h)] = .rt (.int k) [.val x, .val y, .val (.int k), .val (.int b), .val (.int h)] := by
        by_cases b1 : b ∈ B4
        · have b2 : ¬ (h - b ∈ H6) := fun z => hb (mem_nm.mpr ⟨b1, z⟩)
          simp [jB, c_all, c_syl, c_not4, b1, b2, syl_no]
        · simp [jB, c_all, c_syl, c_not4, b1, syl_no]
      rw [e]
      dsimp only
      rw [show jf ((b, h) :: r) k = .int k from if_neg hb]
      exact .inr ⟨_, k, rfl, rfl⟩
theorem s_judge_list (x : PyData) (l : List PyData) : ans (f_judge_sung [.val x, .val (.list l)]) = some (.int 0) := by
  have z : gIsi "tuple" (.list l) = some (.bool false) := rfl
  simp [f_judge_sung, fnM, m_judge_sung, List.replicate, z, ans]
theorem s_judge_len {hs bs : List Int} (h : bs.length ≠ hs.length) : ans (f_judge_sung [.val (.tuple (hs.map .int)), .val (.tuple (bs.map .int))]) = some (.int (if (hs.length : Int) < bs.length then hs.length else bs.length)) := by
  have z : gIsi "tuple" (.tuple (bs.map .int)) = some (.bool true) := rfl
  have h' : ¬ ((bs.length : Int) = hs.length) := by omega
  simp [f_judge_sung, fnM, m_judge_sung, List.replicate, z, ans, h']
theorem s_judge {hs bs : List Int} (h : bs.length = hs.length) : ans (f_judge_sung [.val (.tuple (hs.map .int)), .val (.tuple (bs.map .int))]) = some (jf (bs.zip hs) 0) := by
  have z : gIsi "tuple" (.tuple (bs.map .int)) = some (.bool true) := rfl
  have ez : itEZ [.tuple (bs.map .int), .tuple (hs.map .int)] = some (enumD 0 ((bs.zip hs).map pr)) := by
    rw [← zip_ints]; rfl
  rcases j_loop (x := .tuple (hs.map .int)) (y := .tuple (bs.map .int)) (bs.zip hs) 0 .no .no .no (.inl rfl) (.inl rfl) (.inl rfl) with ⟨e, u2, u3, u4, l⟩ | ⟨ρ, i, e, l⟩
  · unfold jB at l
    simp [f_judge_sung, fnM, m_judge_sung, List.replicate, z, ans, h, ez, l, e]
  · unfold jB at l
    simp [f_judge_sung, fnM, m_judge_sung, List.replicate, z, ans, h, ez, l, e]
theorem jf_ok : ∀ {hs bs : List Int} {k : Nat}, Sg hs bs → jf (bs.zip hs) k = .none
  | [], [], _, _ => rfl
  | h :: hs, b :: bs, k, z => by
    show (if b ∈ nm h then jf (bs.zip hs) (k + 1) else .int k) = _
    rw [if_pos z.1, jf_ok z.2]
  | [], _ :: _, _, z => z.elim
  | _ :: _, [], _, z => z.elim
theorem jf_at : ∀ {hs bs : List Int} {k p : Nat} (z : Sg hs bs) (hp : p < bs.length) (b' : Int), jf ((bs.take p ++ [b'] ++ bs.drop (p + 1)).zip hs) k = if b' ∈ nm (hs[p]?.getD 0) then .none else .int ((k + p : Nat) : Int)
  | [], [], _, _, _, hp, _ => absurd hp (Nat.not_lt_zero _)
  | h :: hs, b :: bs, k, 0, z, _, b' => by
    show (if b' ∈ nm h then jf (bs.zip hs) (k + 1) else .int k) = _
    rw [jf_ok z.2]
    rfl
  | h :: hs, b :: bs, k, p + 1, z, hp, b' => by
    show (if b ∈ nm h then jf ((bs.take p ++ [b'] ++ bs.drop (p + 1)).zip hs) (k + 1) else .int k) = _
    rw [if_pos z.1, jf_at z.2 (by simpa using hp)]
    simp [Nat.add_assoc, Nat.add_comm 1 p]
  | [], _ :: _, _, _, z, _, _ => z.elim
  | _ :: _, [], _, _, z, _, _ => z.elim
end K20

set_option Elab.async false
set_option linter.all false
set_option autoImplicit false
set_option maxRecDepth 100000
set_option maxHeartbeats 1000000
namespace K20
open PySem PySem.Spec PyProof.Rows L2 VL
theorem draw_is : f__law_draw = drawF := rfl
theorem c_draw {b : Box} {sc : List Int} {n : Int} (h : StOk b sc) (h0 : 0 < n) (h1 : n < 1073741824) : ∃ (b' : Box) (r : Int), StOk b' sc ∧ 0 ≤ r ∧ r < n ∧ ∀ ρ : Rho, callD f__law_draw 2 [.b 0, .v (.int n)] (.iol b :: ρ) = .ok (.v (.int r)) (.iol b' :: ρ) ∧ callD f__law_draw 2 [.b 0, .v (.int n)] (.lst b :: ρ) = .ok (.v (.int r)) (.lst b' :: ρ) := by
  obtain ⟨b', r, k, h2, h3, e⟩ := draw_ok h h0 h1
  refine ⟨b', r, k, h2, h3, fun ρ => ⟨?_, ?_⟩⟩
  · exact call_io (f := f__law_draw) (rs := [.v (.int n)]) (args := [.val (.int n)]) (s := .iol b) (b := b) (b' := b') (i := 0) rfl rfl rfl rfl rfl e fun _ _ => rfl
  · exact call_io (f := f__law_draw) (rs := [.v (.int n)]) (args := [.val (.int n)]) (s := .lst b) (b := b) (b' := b') (i := 0) rfl rfl rfl rfl rfl e fun _ _ => rfl
@[simp] theorem mMeth_run {T : String} {i : Nat} {g : Box → List D → Option (Box × D)} {ms : M (List R)} {ρ : Rho} : mMeth T i g ms ρ = (match ρ[i]? with | some s => (match s.box with | some b => (if tyBox T b = true then (match mFrzs ms ρ with | .ok ds ρ' => mChg i g ds ρ' | .exc x ρ' => .exc x ρ' | .bad => .bad) else .bad) | none => .bad) | none => .bad) := by
  show mOwn T i (mBind _ _) ρ = _
  rw [mOwn_run, mBind_run]
  cases ρ[i]? with
  | none => rfl
  | some s =>
    dsimp only
    cases s.box with
    | none => rfl
    | some b =>
      dsimp only
      cases mFrzs ms ρ <;> rfl
@[simp] theorem mChg_run {i : Nat} {g : Box → List D → Option (Box × D)} {ds : List D} {ρ : Rho} : mChg i g ds ρ = (match ρ[i]? with | some s => (match s.box with | some b => (match g b ds with | some (b', d) => .ok (.v d) (ρ.set i (s.with b')) | none => .bad) | none => .bad) | none => .bad) := rfl
@[simp] theorem gAppend_run {l : List D} {d : D} : gAppend (.li l) [d] = (if decide (l.length < 16777216) = true then some (.li (l ++ [d]), .none) else none) := rfl
theorem at_intsZ {l : List Int} {r : Int} (h : 0 ≤ r) (h1 : r < l.length) : atI (l.map PyData.int) r = some (.int (l[r.toNat]?.getD 0)) := by
  have := at_ints (l := l) (i := r.toNat) (by omega)
  rwa [show ((r.toNat : Nat) : Int) = r by omega] at this
def melB : MS := (sSeq (sAsg (mOp2 gIxA (mCall f_all_bases 0 mNil) (mCall f__law_draw 2 (mCons (mVar 0) (mCons (mOpN gLen (mCons (mCall f_all_bases 0 mNil) (mNil))) (mNil))))) (gN 3))
  (sExpr (mMeth "list" 1 gAppend (mCons (mIf (mB (mOp2 gGt (mCall f__law_draw 2 (mCons (mVar 0) (mCons (mConst (.int 9)) (mNil)))) (mConst (.int 0)))) (mOp2 gAdd (mVar 3) (mOp2 gIxA (mNew (mLst (mCons (mConst (.int 0)) (mCons (mConst (.int 2)) (mCons (mConst (.int 4)) (mCons (mConst (.int 5)) (mCons (mConst (.int 7)) (mCons (mConst (.int 9)) (mNil))))))))) (mCall f__law_draw 2 (mCons (mVar 0) (mCons (mConst (.int 6)) (mNil)))))) (mOp2 gSub (mCall f__law_draw 2 (mCons (mVar 0) (mCons (mConst (.int 30)) (mNil)))) (mConst (.int 8)))) (mNil)))))
theorem at_B4 {r : Int} (h : 0 ≤ r) (h1 : r < 4) : ∃ x, atI (B4.map PyData.int) r = some (.int x) := ⟨_, at_intsZ h h1⟩
theorem at_H6 {r : Int} (h : 0 ≤ r) (h1 : r < 6) : ∃ x, atI [PyData.int 0, .int 2, .int 4, .int 5, .int 7, .int 9] r = some (.int x) := ⟨_, at_intsZ (l := H6) h h1⟩
theorem mel_step {b : Box} {sc : List Int} (h : StOk b sc) {acc : List Int} (ha : acc.length ≤ 10) {i : PyData} {s3 : SV} (h3 : s3 = .no ∨ ∃ d, s3 = .val d) : ∃ b' x d, StOk b' sc ∧ melB [.iol b, .lst (.li (acc.map .int)), .val i, s3] = .nx [.iol b', .lst (.li ((acc ++ [x]).map .int)), .val i, .val d] := by
  obtain ⟨b1, r1, k1, p1, q1, e1⟩ := c_draw h (n := 4) (by decide) (by decide)
  obtain ⟨b2, r2, k2, p2, q2, e2⟩ := c_draw k1 (n := 9) (by decide) (by decide)
  obtain ⟨x, ex⟩ := at_B4 p1 q1
  have al : acc.length < 16777216 := by omega
  have l4 : B4.length = 4 := rfl
  by_cases hr : 0 < r2
  · obtain ⟨b3, r3, k3, p3, q3, e3⟩ := c_draw k2 (n := 6) (by decide) (by decide)
    obtain ⟨y, ey⟩ := at_H6 p3 q3
    refine ⟨b3, x + y, .int x, k3, ?_⟩
    rcases h3 with rfl | ⟨d, rfl⟩ <;> simp [melB, c_all, l4, (e1 _).1, (e2 _).1, (e3 _).1, ex, ey, hr, al]
  · obtain ⟨b3, r3, k3, p3, q3, e3⟩ := c_draw k2 (n := 30) (by decide) (by decide)
    refine ⟨b3, r3 - 8, .int x, k3, ?_⟩
    rcases h3 with rfl | ⟨d, rfl⟩ <;> simp [melB, c_all, l4, (e1 _).1, (e2 _).1, (e3 _).1, ex, hr, al]
theorem mel_loop {sc : List Int} : ∀ (l : List Int) (b : Box) (acc : List Int) (s2 s3 : SV), StOk b sc → acc.length + l.length ≤ 10 → (s2 = .no ∨ ∃ d, s2 = .val d) → (s3 = .no ∨ ∃ d, s3 = .val d) → ∃ (b' : Box) (xs : List Int) (u2 u3 : SV), StOk b' sc ∧ xs.length = acc.length + l.length ∧ sLoop (gN 2) melB (l.map .int) [.iol b, .lst (.li (acc.map .int)), s2, s3] = .nx [.iol b', .lst (.li (xs.map .int)), u2, u3]
  | [], b, acc, s2, s3, h, _, _, _ => ⟨b, acc, s2, s3, h, rfl, rfl⟩
  | i :: l, b, acc, s2, s3, h, ha, h2, h3 => by
    rw [List.length_cons] at ha
    obtain ⟨b1, x, d, k1, e1⟩ := mel_step h (acc := acc) (by omega) (i := .int i) h3
    obtain ⟨b', xs, u2, u3, k, e, z⟩ := mel_loop l b1 (acc ++ [x]) (.val (.int i)) (.val d) k1 (by simp; omega) (.inr ⟨_, rfl⟩) (.inr ⟨_, rfl⟩)
    refine ⟨b', xs, u2, u3, k, by rw [e]; simp; omega, ?_⟩
    rw [List.map_cons]
    unfold sLoop
    have go : gN 2 (.int i) [.iol b, .lst (.li (acc.map .int)), s2, s3] = some [.iol b, .lst (.li (acc.map .int)), .val (.int i), s3] := by
      rcases h2 with rfl | ⟨_, rfl⟩ <;> rfl
    rw [go]
    dsimp only
    rw [e1]
    exact z
theorem rangeD_ints {i : Int} {n : Nat} : rangeD i n = ((List.range n).map fun k : Nat => i + (k : Int)).map .int := by
  unfold rangeD
  rw [List.map_map]
  rfl
theorem s_melody {b : Box} {sc : List Int} (h : StOk b sc) : ∃ (b' : Box) (hs : List Int), StOk b' sc ∧ hs.length ≤ 8 ∧ ansIo (f__law_melody [.iol b]) = some (.tuple (hs.map .int), .iol b') := by
  obtain ⟨b1, r1, k1, p1, q1, e1⟩ := c_draw h (n := 9) (by decide) (by decide)
  obtain ⟨b', xs, u2, u3, k, e, z⟩ := mel_loop ((List.range r1.toNat).map fun k : Nat => 0 + (k : Int)) b1 [] .no .no k1 (by simp; omega) (.inl rfl) (.inl rfl)
  rw [← rangeD_ints] at z
  refine ⟨b', xs, k, by rw [e]; simp; omega, ?_⟩
  have er := r1_small (i := r1) (by omega) (by omega)
  unfold melB at z
  simp only [List.map_nil] at z
  simp [f__law_melody, fnM, m__law_melody, List.replicate, (e1 _).1, er, z, ansIo]
end K20

set_option Elab.async false
set_option linter.all false
set_option autoImplicit false
set_option maxRecDepth 100000
set_option maxHeartbeats 1000000
namespace K20
open PySem PySem.Spec PyProof.Rows L2 VL
def p_law_sung_1 : MS := sAsg (mCall f_fewest_changes 1 (mCons (mVar 1) (mNil))) (gN 2)
def p_law_sung_2 : MS := sIf (mOrT (mB (mOp2 gNe (mOp2 gIs (mVar 2) (mConst .none)) (mOpN gAny (mCons (mNew (mLc [7] (mIt itA (mVar 1)) (gN 7) (mYes) (mOp2 gIsNot (mCall f_is_in_hand 1 (mCons (mVar 7) (mNil))) (mConst (.bool true))))) (mNil))))) (mB (mOp2 gNe (mOp2 gIs (mCall f_sung 1 (mCons (mVar 1) (mNil))) (mConst .none)) (mOp2 gIs (mVar 2) (mConst .none))))) (sRet (mConst (.bool false))) (sNext)
def p_law_sung_3 : MS := sIf (mB (mOp2 gIs (mVar 2) (mConst .none))) (sRet (mConst (.bool true))) (sNext)
def p_law_sung_4 : MS := sAsg (mVar 2) (gT 2 (gsC (gN 3) (gsC (gN 4) (gsN))))
def p_law_sung_5 : MS := sIf (mOrT (mB (mOp2 gIsNot (mCall f_judge_sung 2 (mCons (mVar 1) (mCons (mVar 4) (mNil)))) (mConst .none))) (mOrT (mB (mOp2 gNe (mOpN gLen (mCons (mCall f_changes_at 1 (mCons (mVar 4) (mNil))) (mNil))) (mVar 3))) (mB (mOp2 gNe (mCall f_sung 1 (mCons (mVar 1) (mNil))) (mOpN gTuple (mCons (mNew (mLc [5] (mItN itR1 (mCons (mOpN gLen (mCons (mVar 1) (mNil))) (mNil))) (gN 5) (mYes) (mCall f_syllable_of 2 (mCons (mOp2 gIxA (mVar 4) (mVar 5)) (mCons (mOp2 gIxA (mVar 1) (mVar 5)) (mNil)))))) (mNil))))))) (sRet (mConst (.bool false))) (sNext)
def p_law_sung_6b_1 : MS := sAsg (mTup (mNil)) (gN 6)
def p_law_sung_6b_2b_1 : MS := sAsg (mCall f_names_of 1 (mCons (mVar 7) (mNil))) (gN 8)
def p_law_sung_6b_2b_2 : MS := sAsg (mOp2 gAdd (mVar 6) (mTup (mCons (mOp2 gIxA (mOp2 gIxA (mVar 8) (mCall f__law_draw 2 (mCons (mVar 0) (mCons (mOpN gLen (mCons (mVar 8) (mNil))) (mNil))))) (mConst (.int 0))) (mNil)))) (gN 6)
def p_law_sung_6b_2b : MS := sSeq p_law_sung_6b_2b_1 p_law_sung_6b_2b_2
def p_law_sung_6b_2 : MS := sFor (mIt itA (mVar 1)) (gN 7) p_law_sung_6b_2b
def p_law_sung_6b_3 : MS := sIf (mOrT (mB (mOp2 gIsNot (mCall f_judge_sung 2 (mCons (mVar 1) (mCons (mVar 6) (mNil)))) (mConst .none))) (mOrT (mB (mOp2 gLt (mOpN gLen (mCons (mCall f_changes_at 1 (mCons (mVar 6) (mNil))) (mNil))) (mVar 3))) (mAndT (mB (mOp2 gEq (mOpN gLen (mCons (mCall f_changes_at 1 (mCons (mVar 6) (mNil))) (mNil))) (mVar 3))) (mB (mOp2 gLt (mVar 6) (mVar 4)))))) (sRet (mConst (.bool false))) (sNext)
def p_law_sung_6b : MS := sSeq p_law_sung_6b_1 (sSeq p_law_sung_6b_2 p_law_sung_6b_3)
def p_law_sung_6 : MS := sFor (mItN itR1 (mCons (mConst (.int 6)) (mNil))) (gN 5) p_law_sung_6b
def p_law_sung_7 : MS := sIf (mOrT (mB (mOp2 gNe (mCall f_judge_sung 2 (mCons (mVar 1) (mCons (mNew (mOpL gList (mCons (mVar 4) (mNil)))) (mNil)))) (mConst (.int 0)))) (mOrT (mB (mOp2 gNe (mCall f_judge_sung 2 (mCons (mVar 1) (mCons (mOp2 gAdd (mVar 4) (mTup (mCons (mConst (.int 0)) (mNil)))) (mNil)))) (mOpN gLen (mCons (mVar 1) (mNil))))) (mAndT (mB (mOp2 gGt (mOpN gLen (mCons (mVar 4) (mNil))) (mConst (.int 0)))) (mB (mOp2 gNe (mCall f_judge_sung 2 (mCons (mVar 1) (mCons (mSl gSl (mVar 4) (moS (mConst (.int 1))) (moN)) (mNil)))) (mOp2 gSub (mOpN gLen (mCons (mVar 1) (mNil))) (mConst (.int 1)))))))) (sRet (mConst (.bool false))) (sNext)
def p_law_sung_8 : MS := sIf (mB (mOp2 gGt (mOpN gLen (mCons (mVar 4) (mNil))) (mConst (.int 0)))) (sSeq (sAsg (mCall f__law_draw 2 (mCons (mVar 0) (mCons (mOpN gLen (mCons (mVar 4) (mNil))) (mNil)))) (gN 9)) (sSeq (sAsg (mOp2 gAdd (mOp2 gAdd (mSl gSl (mVar 4) (moN) (moS (mVar 9))) (mTup (mCons (mOp2 gAdd (mOp2 gIxA (mVar 4) (mVar 9)) (mConst (.int 1))) (mNil)))) (mSl gSl (mVar 4) (moS (mOp2 gAdd (mVar 9) (mConst (.int 1)))) (moN))) (gN 10)) (sIf (mB (mOp2 gNe (mCall f_judge_sung 2 (mCons (mVar 1) (mCons (mVar 10) (mNil)))) (mIf (mOrT (mB (mOp2 gIs (mCall f_syllable_of 2 (mCons (mOp2 gAdd (mOp2 gIxA (mVar 4) (mVar 9)) (mConst (.int 1))) (mCons (mOp2 gIxA (mVar 1) (mVar 9)) (mNil)))) (mConst .none))) (mB (mOp2 gNotInA (mOp2 gAdd (mOp2 gIxA (mVar 4) (mVar 9)) (mConst (.int 1))) (mCall f_all_bases 0 mNil)))) (mVar 9) (mConst .none)))) (sRet (mConst (.bool false))) (sNext)))) (sNext)
def p_law_sung_9 : MS := sRet (mConst (.bool true))
def p_law_sung : MS := sSeq p_law_sung_1 (sSeq p_law_sung_2 (sSeq p_law_sung_3 (sSeq p_law_sung_4 (sSeq p_law_sung_5 (sSeq p_law_sung_6 (sSeq p_law_sung_7 (sSeq p_law_sung_8 p_law_sung_9)))))))
theorem p_law_sung_is : m__law_sung = p_law_sung := rfl
@[simp] theorem gNe_bb {a b : Bool} : gNe (.bool a) (.bool b) = some (.bool (a != b)) := rfl
@[simp] theorem gEq_bb {a b : Bool} : gEq (.bool a) (.bool b) = some (.bool (a == b)) := rfl
@[simp] theorem gIsNot_t {a : Bool} : gIsNot (.bool a) (.bool true) = some (.bool (!a)) := by cases a <;> rfl
@[simp] theorem gIs_t {a : Bool} : gIs (.bool a) (.bool true) = some (.bool a) := by cases a <;> rfl
@[simp] theorem gIs_f {a : Bool} : gIs (.bool a) (.bool false) = some (.bool (!a)) := by cases a <;> rfl
theorem bools_map {α : Type} (g : α → Bool) : ∀ l : List α, boolsD (l.map fun x => .bool (g x)) = some (l.map g)
  | [] => rfl
  | x :: r => by
    rw [List.map_cons, List.map_cons]
    unfold boolsD
    rw [bools_map g r]
    rfl
theorem any_map {α : Type} (g : α → Bool) (l : List α) : gAny [.list (l.map fun x => .bool (g x))] = some (.bool (l.any g)) := by
  show (boolsD _).map _ = _
  rw [bools_map]
  simp [List.any_map]
theorem c_hand (h : Int) (ρ : Rho) : callD f_is_in_hand 1 [.v (.int h)] ρ = .ok (.v (.bool (decide (nm h ≠ [])))) ρ := callV1 (s_hand h)
theorem c_sung0 {hs : List Int} (hl : hs.length ≤ 50) (e : fewD hs = .none) (ρ : Rho) : callD f_sung 1 [.v (.tuple (hs.map .int))] ρ = .ok (.v .none) ρ := callV1 (s_sung0 hl e)
theorem c_sung1 {hs s : List Int} {c : Int} (hl : hs.length ≤ 50) (hs' : s.length = hs.length) (e : fewD hs = encR (c, s)) (ρ : Rho) : callD f_sung 1 [.v (.tuple (hs.map .int))] ρ = .ok (.v (.tuple (syls s hs))) ρ := callV1 (s_sung1 hl hs' e)
theorem c_changes {bs : List Int} (hl : bs.length ≤ 50) (ρ : Rho) : callD f_changes_at 1 [.v (.tuple (bs.map .int))] ρ = .ok (.v (.tuple ((chL bs).map fun i : Nat => PyData.int (1 + (i : Nat))))) ρ := callV1 (s_changes bs hl)
theorem c_judge {hs bs : List Int} (h : bs.length = hs.length) (ρ : Rho) : callD f_judge_sung 2 [.v (.tuple (hs.map .int)), .v (.tuple (bs.map .int))] ρ = .ok (.v (jf (bs.zip hs) 0)) ρ := callV2 (s_judge h)
theorem c_judge_len {hs bs : List Int} (h : bs.length ≠ hs.length) (ρ : Rho) : callD f_judge_sung 2 [.v (.tuple (hs.map .int)), .v (.tuple (bs.map .int))] ρ = .ok (.v (.int (if (hs.length : Int) < bs.length then hs.length else bs.length))) ρ := callV2 (s_judge_len h)
theorem c_judge_list (x : PyData) (l : List PyData) (ρ : Rho) : callD f_judge_sung 2 [.v x, .v (.list l)] ρ = .ok (.v (.int 0)) ρ := callV2 (s_judge_list x l)
theorem hand_lc (hs : List Int) (b : Box) (told : PyData) : lcLoop [7] (gN 7) mYes (mFrz (mOp2 gIsNot (mCall f_is_in_hand 1 (mCons (mVar 7) (mNil))) (mConst (.bool true)))) (hs.map .int) [.iol b, .val (.tuple (hs.map .int)), .val told, .no, .no, .no, .no, .no, .no, .no, .no] = .ok (hs.map fun h => .bool (decide (nm h = []))) [.iol b, .val (.tuple (hs.map .int)), .val told, .no, .no, .no, .no, .no, .no, .no, .no] := by
  have l := lc_map (own := [7]) (t := gN 7) (mt := mYes) (me := mFrz (mOp2 gIsNot (mCall f_is_in_hand 1 (mCons (mVar 7) (mNil))) (mConst (.bool true)))) (ρ := [.iol b, .val (.tuple (hs.map .int)), .val told, .no, .no, .no, .no, .no, .no, .no, .no]) PyData.int (fun h => some (.bool (decide (nm h = [])))) hs fun h _ => by
    simp [lcStep, wipeR, unwipe, c_hand]
  rwa [filterMap_all] at l
theorem sung_none {hs : List Int} {b : Box} (hl : hs.length ≤ 8) (e : fewD hs = .none) (hx : ∃ h ∈ hs, nm h = []) : ansIo (f__law_sung [.iol b, .val (.tuple (hs.map .int))]) = some (.bool true, .iol b) := by
  have any : (hs.any fun h => decide (nm h = [])) = true := by
    obtain ⟨h, hh, z⟩ := hx
    exact List.any_eq_true.mpr ⟨h, hh, decide_eq_true z⟩
  have z1 := c_few (hs := hs) (by omega)
  rw [e] at z1
  have len : hs.length ≤ 16777216 := by omega
  have z2 := any_map (fun h => decide (nm h = [])) hs
  rw [any] at z2
  unfold f__law_sung fnM
  rw [p_law_sung_is]
  simp [p_law_sung, p_law_sung_1, p_law_sung_2, p_law_sung_3, List.replicate, z1, c_sung0 (hs := hs) (by omega) e, hand_lc, len, z2, ansIo]
end K20

set_option Elab.async false
set_option linter.all false
set_option autoImplicit false
set_option maxRecDepth 100000
set_option maxHeartbeats 1000000
namespace K20
open PySem PySem.Spec PyProof.Rows L2 VL
theorem lay_all : ∀ {l : List PyData}, (∀ d ∈ l, PyData.canLay0 d = true) → PyData.canLayAll0 l = true
  | [], _ => rfl
  | d :: r, h => by rw [PyData.canLayAll0, h d List.mem_cons_self, lay_all fun x hx => h x (List.mem_cons_of_mem _ hx)]; rfl
theorem depth_all {k : Nat} : ∀ {l : List PyData}, (∀ d ∈ l, d.depth ≤ k) → PyData.depthAll l ≤ k
  | [], _ => by simp [PyData.depthAll]
  | d :: r, h => by rw [PyData.depthAll]; exact Nat.max_le.mpr ⟨h d List.mem_cons_self, depth_all fun x hx => h x (List.mem_cons_of_mem _ hx)⟩
/-- plain data that can be laid out: what is no container -/
def flat (d : PyData) : Bool := d.canLay0 && decide (d.depth ≤ 1)
theorem flat_lay {d : PyData} (h : flat d = true) : PyData.canLay0 d = true := (Bool.and_eq_true_iff.mp h).1
theorem flat_depth {d : PyData} (h : flat d = true) : d.depth ≤ 1 := of_decide_eq_true (Bool.and_eq_true_iff.mp h).2
theorem shaped_flat {d : PyData} (h : flat d = true) : SeqAt.shaped d = true := by
  unfold SeqAt.shaped
  rw [flat_lay h, decide_eq_true (show d.depth ≤ 64 from by have := flat_depth h; omega)]
  rfl
theorem shaped_t {l : List PyData} (h : ∀ d ∈ l, flat d = true) : SeqAt.shaped (.tuple l) = true := by
  unfold SeqAt.shaped
  rw [show PyData.canLay0 (.tuple l) = true from lay_all fun d hd => flat_lay (h d hd), decide_eq_true]
  · rfl
  · have := depth_all (k := 1) fun d hd => flat_depth (h d hd)
    simp [PyData.depth]; omega
theorem shaped_l {l : List PyData} (h : ∀ d ∈ l, flat d = true) : SeqAt.shaped (.list l) = true := by
  unfold SeqAt.shaped
  rw [show PyData.canLay0 (.list l) = true from lay_all fun d hd => flat_lay (h d hd), decide_eq_true]
  · rfl
  · have := depth_all (k := 1) fun d hd => flat_depth (h d hd)
    simp [PyData.depth]; omega
theorem syl_flat (g : Int) : flat (syl g) = true := by
  unfold syl
  repeat' split
  all_goals first | rfl | decide +kernel
theorem lt_ints (a b : List Int) : gLt (.tuple (a.map .int)) (.tuple (b.map .int)) = some (.bool (decide (a < b))) := by
  show (if ordOk _ _ = true then some (PyData.bool (PySem.W.dataLt (.tuple (a.map .int)) (.tuple (b.map .int)))) else none) = _
  have e3 : PySem.W.dataLt (.tuple (a.map .int)) (.tuple (b.map .int)) = decide (a < b) := by
    rw [PySem.W.dataLt_tuple]; exact PySem.W.dataLt_ints a b
  have e4 : ordOk (.tuple (a.map .int)) (.tuple (b.map .int)) = true := by
    unfold ordOk
    rw [show PySem.W.alike (.tuple (a.map .int)) (.tuple (b.map .int)) = true from PySem.W.alike_ints a b,
      show PyData.canLay0 (.tuple (a.map .int)) = true from canLay_ints a,
      show PyData.canLay0 (.tuple (b.map .int)) = true from canLay_ints b, decide_eq_true]
    · rfl
    · have := depth_all (l := a.map .int) (k := 1) fun d hd => by
        obtain ⟨x, _, rfl⟩ := List.mem_map.mp hd
        exact flat_depth rfl
      simp [PyData.depth]; omega
  rw [e4, e3]
  rfl
/-- the slots of _law_sung where something can be sung -/
def sl1 (b : Box) (hs : List Int) (c : Int) (s : List Int) (s5 s6 s7 s8 : SV) : Rho := [.iol b, .val (.tuple (hs.map .int)), .val (encR (c, s)), .val (.int c), .val (.tuple (s.map .int)), s5, s6, s7, s8, .no, .no]
theorem isNo_encR {p : Row} : isNo (encR p) = false := rfl
theorem sung_2 {hs s : List Int} {c : Int} {b : Box} (hl : hs.length ≤ 8) (hs' : s.length = hs.length) (e : fewD hs = encR (c, s)) (hn : ∀ h ∈ hs, nm h ≠ []) :
    p_law_sung_2 [.iol b, .val (.tuple (hs.map .int)), .val (encR (c, s)), .no, .no, .no, .no, .no, .no, .no, .no] = .nx [.iol b, .val (.tuple (hs.map .int)), .val (encR (c, s)), .no, .no, .no, .no, .no, .no, .no, .no] := by
  have any : (hs.any fun h => decide (nm h = [])) = false := by
    rw [List.any_eq_false]
    intro h hh
    simpa using hn h hh
  have len : hs.length ≤ 16777216 := by omega
  have z2 := any_map (fun h => decide (nm h = [])) hs
  rw [any] at z2
  simp [p_law_sung_2, c_sung1 (hs := hs) (by omega) hs' e, hand_lc, len, z2, isNo_encR]
end K20

set_option Elab.async false
set_option linter.all false
set_option autoImplicit false
set_option maxRecDepth 100000
set_option maxHeartbeats 1000000
namespace K20
open PySem PySem.Spec PyProof.Rows L2 VL
def sl (b : Box) (hs : List Int) (c : Int) (s : List Int) (s5 s6 s7 s8 s9 s10 : SV) : Rho := [.iol b, .val (.tuple (hs.map .int)), .val (encR (c, s)), .val (.int c), .val (.tuple (s.map .int)), s5, s6, s7, s8, s9, s10]
theorem syls_shaped (s hs : List Int) : SeqAt.shaped (.tuple (syls s hs)) = true := shaped_t fun d hd => by
  obtain ⟨p, _, rfl⟩ := List.mem_map.mp hd
  exact syl_flat _
theorem syls_range {s hs : List Int} (h : s.length = hs.length) : syls s hs = (List.range hs.length).map fun i => syl (hs[i]?.getD 0 - s[i]?.getD 0) := by
  unfold syls
  apply List.ext_getElem?
  intro i
  rw [List.getElem?_map, List.getElem?_map]
  by_cases hi : i < hs.length
  · rw [List.getElem?_eq_getElem (by rw [List.length_zip]; omega), List.getElem?_range hi]
    simp [List.getElem?_eq_getElem hi, List.getElem?_eq_getElem (show i < s.length by omega)]
  · rw [List.getElem?_eq_none (by rw [List.length_zip]; omega), List.getElem?_eq_none (by simp; omega)]
    rfl
theorem sung_5 {hs s : List Int} {c : Int} {b : Box} (hl : hs.length ≤ 8) (z : Sg hs s) (hc : c = cost s) (e : fewD hs = encR (c, s)) :
    p_law_sung_5 (sl b hs c s .no .no .no .no .no .no) = .nx (sl b hs c s .no .no .no .no .no .no) := by
  have hs' := sg_len z
  have l := lc_map (own := [5]) (t := gN 5) (mt := mYes) (me := mFrz (mCall f_syllable_of 2 (mCons (mOp2 gIxA (mVar 4) (mVar 5)) (mCons (mOp2 gIxA (mVar 1) (mVar 5)) (mNil))))) (ρ := sl b hs c s .no .no .no .no .no .no) (fun i : Nat => PyData.int (0 + (i : Nat))) (fun i => some (syl (hs[i]?.getD 0 - s[i]?.getD 0))) (List.range hs.length) fun i hi => by
    have hi := List.mem_range.mp hi
    have a1 := at_ints (l := hs) (i := i) hi
    have a2 := at_ints (l := s) (i := i) (by omega)
    simp [lcStep, wipeR, unwipe, a1, a2, sl, c_syl]
  rw [filterMap_all, ← syls_range hs'] at l
  have l : lcLoop [5] (gN 5) mYes _ (rangeD 0 hs.length) _ = _ := l
  have er : itR1 [.int hs.length] = some (rangeD 0 hs.length) := by
    rw [r1_small (by omega) (by omega)]; rfl
  have len : hs.length ≤ 16777216 := by omega
  have lenR : (rangeD 0 hs.length).length ≤ 16777216 := by rw [rangeD_len]; exact len
  have jo := jf_ok (k := 0) z
  have cl : ((chL s).length : Int) = c := by rw [hc]; exact ch_len s
  simp only [sl] at l ⊢
  simp [p_law_sung_5, c_judge hs', jo, c_changes (bs := s) (by omega), cl, c_sung1 (hs := hs) (by omega) hs' e, er, rangeD_len, len, l, gNe_same (syls_shaped s hs)]
end K20

set_option Elab.async false
set_option linter.all false
set_option autoImplicit false
set_option maxRecDepth 100000
set_option maxHeartbeats 1000000
namespace K20
open PySem PySem.Spec PyProof.Rows L2 VL
def sNo (s : SV) : Prop := s = .no ∨ ∃ d, s = .val d
theorem sNo_val {d : PyData} : sNo (.val d) := .inr ⟨d, rfl⟩
theorem at_nm {h : Int} {r : Int} (h0 : 0 ≤ r) (h1 : r < (nm h).length) : ∃ x, x ∈ nm h ∧ atI ((nm h).map (named h)) r = some (named h x) := by
  have hr : r.toNat < (nm h).length := by omega
  refine ⟨(nm h)[r.toNat], List.getElem_mem hr, ?_⟩
  have := VL.atI_nat ((nm h).map (named h)) r.toNat
  rw [show ((r.toNat : Nat) : Int) = r by omega] at this
  rw [this, List.getElem?_map, List.getElem?_eq_getElem hr]
  rfl
theorem named_0 {h x : Int} : gIxA (named h x) (.int 0) = some (.int x) := rfl
theorem oth_step {hs s : List Int} {c : Int} {b : Box} {sc : List Int} (k : StOk b sc) {h : Int} (hn : nm h ≠ []) {acc : List Int} (ha : acc.length ≤ 10) {s5 s8 s9 s10 : SV} (h8 : sNo s8) : ∃ (b' : Box) (x : Int) (d : PyData), StOk b' sc ∧ x ∈ nm h ∧ p_law_sung_6b_2b (sl b hs c s s5 (.val (.tuple (acc.map .int))) (.val (.int h)) s8 s9 s10) = .nx (sl b' hs c s s5 (.val (.tuple ((acc ++ [x]).map .int))) (.val (.int h)) (.val d) s9 s10) := by
  have hp : 0 < (nm h).length := by cases q : nm h with | nil => exact absurd q hn | cons _ _ => simp
  have hq := nm_len h
  obtain ⟨b1, r1, k1, p1, q1, e1⟩ := c_draw k (n := ((nm h).length : Int)) (by omega) (by omega)
  obtain ⟨x, hx, ex⟩ := at_nm p1 q1
  refine ⟨b1, x, .list ((nm h).map (named h)), k1, hx, ?_⟩
  have al : acc.length + 1 ≤ 16777216 := by omega
  rcases h8 with rfl | ⟨_, rfl⟩ <;> simp [p_law_sung_6b_2b, p_law_sung_6b_2b_1, p_law_sung_6b_2b_2, sl, c_names, (e1 _).1, ex, named_0, al]
theorem oth_loop {hs0 s : List Int} {c : Int} {sc : List Int} {s5 s9 s10 : SV} : ∀ (hs : List Int) (b : Box) (acc : List Int) (s7 s8 : SV), StOk b sc → (∀ h ∈ hs, nm h ≠ []) → acc.length + hs.length ≤ 10 → sNo s7 → sNo s8 → ∃ (b' : Box) (xs : List Int) (u7 u8 : SV), StOk b' sc ∧ sNo u7 ∧ sNo u8 ∧ Sg hs xs ∧ sLoop (gN 7) p_law_sung_6b_2b (hs.map .int) (sl b hs0 c s s5 (.val (.tuple (acc.map .int))) s7 s8 s9 s10) = .nx (sl b' hs0 c s s5 (.val (.tuple ((acc ++ xs).map .int))) u7 u8 s9 s10)
  | [], b, acc, s7, s8, k, _, _, h7, h8 => ⟨b, [], s7, s8, k, h7, h8, trivial, by rw [List.append_nil]; rfl⟩
  | h :: hs, b, acc, s7, s8, k, hn, ha, h7, h8 => by
    rw [List.length_cons] at ha
    obtain ⟨b1, x, d, k1, hx, e1⟩ := oth_step (hs := hs0) (s := s) (c := c) k (hn h List.mem_cons_self) (acc := acc) (by omega) (s5 := s5) (s9 := s9) (s10 := s10) h8
    obtain ⟨b', xs, u7, u8, k', g7, g8, z, e⟩ := oth_loop hs b1 (acc ++ [x]) (.val (.int h)) (.val d) k1 (fun y hy => hn y (List.mem_cons_of_mem _ hy)) (by simp; omega) sNo_val sNo_val
    refine ⟨b', x :: xs, u7, u8, k', g7, g8, ⟨hx, z⟩, ?_⟩
    rw [List.map_cons]
    unfold sLoop
    have go : gN 7 (.int h) (sl b hs0 c s s5 (.val (.tuple (acc.map .int))) s7 s8 s9 s10) = some (sl b hs0 c s s5 (.val (.tuple (acc.map .int))) (.val (.int h)) s8 s9 s10) := by
      rcases h7 with rfl | ⟨_, rfl⟩ <;> rfl
    rw [go]
    dsimp only
    rw [e1]
    dsimp only
    rw [e, List.append_assoc]
    rfl
end K20

set_option Elab.async false
set_option linter.all false
set_option autoImplicit false
set_option maxRecDepth 100000
set_option maxHeartbeats 1000000
namespace K20
open PySem PySem.Spec PyProof.Rows L2 VL
def Least (hs : List Int) (c : Int) (s : List Int) : Prop := ∀ bs, Sg hs bs → rLe (c, s) (cost bs, bs)
theorem sung_6t {hs s o : List Int} {c : Int} {b : Box} (hl : hs.length ≤ 8) (zo : Sg hs o) (hm : Least hs c s) {s5 s7 s8 s9 s10 : SV} :
    p_law_sung_6b_3 (sl b hs c s s5 (.val (.tuple (o.map .int))) s7 s8 s9 s10) = .nx (sl b hs c s s5 (.val (.tuple (o.map .int))) s7 s8 s9 s10) := by
  have ho := sg_len zo
  have jo := jf_ok (k := 0) zo
  have cl : ((chL o).length : Int) = cost o := ch_len o
  have m := hm o zo
  have m1 : ¬ (cost o < c) := fun z => m (.inl z)
  have m2 : cost o = c → ¬ (o < s) := fun e z => m (.inr ⟨e, z⟩)
  have lt := lt_ints o s
  simp only [sl]
  by_cases he : cost o = c
  · simp [p_law_sung_6b_3, c_judge ho, jo, c_changes (bs := o) (by omega), cl, m1, he, lt, m2 he]
  · simp [p_law_sung_6b_3, c_judge ho, jo, c_changes (bs := o) (by omega), cl, m1, he]
theorem sung_6b {hs s : List Int} {c : Int} {b : Box} {sc : List Int} (k : StOk b sc) (hl : hs.length ≤ 8) (hn : ∀ h ∈ hs, nm h ≠ []) (hm : Least hs c s) {s5 s6 s7 s8 s9 s10 : SV} (h6 : sNo s6) (h7 : sNo s7) (h8 : sNo s8) : ∃ (b' : Box) (u6 u7 u8 : SV), StOk b' sc ∧ sNo u6 ∧ sNo u7 ∧ sNo u8 ∧ p_law_sung_6b (sl b hs c s s5 s6 s7 s8 s9 s10) = .nx (sl b' hs c s s5 u6 u7 u8 s9 s10) := by
  obtain ⟨b', xs, u7, u8, k', g7, g8, z, e⟩ := oth_loop (hs0 := hs) (s := s) (c := c) (s5 := s5) (s9 := s9) (s10 := s10) hs b [] s7 s8 k hn (by simp; omega) h7 h8
  refine ⟨b', .val (.tuple (xs.map .int)), u7, u8, k', sNo_val, g7, g8, ?_⟩
  have t := sung_6t (b := b') hl z hm (s5 := s5) (s7 := u7) (s8 := u8) (s9 := s9) (s10 := s10)
  have e1 : p_law_sung_6b_1 (sl b hs c s s5 s6 s7 s8 s9 s10) = .nx (sl b hs c s s5 (.val (.tuple ([].map .int))) s7 s8 s9 s10) := by
    rcases h6 with rfl | ⟨_, rfl⟩ <;> simp [p_law_sung_6b_1, sl]
  have e2 : p_law_sung_6b_2 (sl b hs c s s5 (.val (.tuple ([].map .int))) s7 s8 s9 s10) = .nx (sl b' hs c s s5 (.val (.tuple (xs.map .int))) u7 u8 s9 s10) := by
    unfold p_law_sung_6b_2
    rw [sFor_run]
    have : mIt itA (mVar 1) (sl b hs c s s5 (.val (.tuple ([].map .int))) s7 s8 s9 s10) = .ok (hs.map .int) (sl b hs c s s5 (.val (.tuple ([].map .int))) s7 s8 s9 s10) := rfl
    rw [this]
    exact e
  unfold p_law_sung_6b
  rw [sSeq_run, e1]
  dsimp only
  rw [sSeq_run, e2]
  exact t
theorem sung_6l {hs s : List Int} {c : Int} {sc : List Int} (hl : hs.length ≤ 8) (hn : ∀ h ∈ hs, nm h ≠ []) (hm : Least hs c s) {s9 s10 : SV} : ∀ (l : List Int) (b : Box) (s5 s6 s7 s8 : SV), StOk b sc → sNo s5 → sNo s6 → sNo s7 → sNo s8 → ∃ (b' : Box) (u5 u6 u7 u8 : SV), StOk b' sc ∧ sNo u5 ∧ sNo u6 ∧ sNo u7 ∧ sNo u8 ∧ sLoop (gN 5) p_law_sung_6b (l.map .int) (sl b hs c s s5 s6 s7 s8 s9 s10) = .nx (sl b' hs c s u5 u6 u7 u8 s9 s10)
  | [], b, s5, s6, s7, s8, k, h5, h6, h7, h8 => ⟨b, s5, s6, s7, s8, k, h5, h6, h7, h8, rfl⟩
  | i :: l, b, s5, s6, s7, s8, k, h5, h6, h7, h8 => by
    obtain ⟨b1, v6, v7, v8, k1, g6, g7, g8, e1⟩ := sung_6b k hl hn hm (s5 := .val (.int i)) (s9 := s9) (s10 := s10) h6 h7 h8
    obtain ⟨b', u5, u6, u7, u8, k', q5, q6, q7, q8, e⟩ := sung_6l hl hn hm l b1 (.val (.int i)) v6 v7 v8 k1 sNo_val g6 g7 g8
    refine ⟨b', u5, u6, u7, u8, k', q5, q6, q7, q8, ?_⟩
    rw [List.map_cons]
    unfold sLoop
    have go : gN 5 (.int i) (sl b hs c s s5 s6 s7 s8 s9 s10) = some (sl b hs c s (.val (.int i)) s6 s7 s8 s9 s10) := by
      rcases h5 with rfl | ⟨_, rfl⟩ <;> rfl
    rw [go]
    dsimp only
    rw [e1]
    exact e
theorem sung_6 {hs s : List Int} {c : Int} {b : Box} {sc : List Int} (k : StOk b sc) (hl : hs.length ≤ 8) (hn : ∀ h ∈ hs, nm h ≠ []) (hm : Least hs c s) : ∃ (b' : Box) (u5 u6 u7 u8 : SV), StOk b' sc ∧ sNo u5 ∧ sNo u6 ∧ sNo u7 ∧ sNo u8 ∧ p_law_sung_6 (sl b hs c s .no .no .no .no .no .no) = .nx (sl b' hs c s u5 u6 u7 u8 .no .no) := by
  obtain ⟨b', u5, u6, u7, u8, k', q5, q6, q7, q8, e⟩ := sung_6l hl hn hm (s9 := .no) (s10 := .no) [0, 1, 2, 3, 4, 5] b .no .no .no .no k (.inl rfl) (.inl rfl) (.inl rfl) (.inl rfl)
  refine ⟨b', u5, u6, u7, u8, k', q5, q6, q7, q8, ?_⟩
  rw [← e]
  rfl
end K20

set_option Elab.async false
set_option linter.all false
set_option autoImplicit false
set_option maxRecDepth 100000
set_option maxHeartbeats 1000000
namespace K20
open PySem PySem.Spec PyProof.Rows L2 VL
theorem sung_7 {hs s : List Int} {c : Int} {b : Box} (hl : hs.length ≤ 8) (z : Sg hs s) {s5 s6 s7 s8 : SV} :
    p_law_sung_7 (sl b hs c s s5 s6 s7 s8 .no .no) = .nx (sl b hs c s s5 s6 s7 s8 .no .no) := by
  have hs' := sg_len z
  have j1 : ∀ ρ, callD f_judge_sung 2 [.v (.tuple (hs.map .int)), .v (.tuple (s.map .int ++ [.int 0]))] ρ = .ok (.v (.int hs.length)) ρ := fun ρ => by
    have := c_judge_len (hs := hs) (bs := s ++ [0]) (by simp; omega) ρ
    rw [List.map_append, if_pos (by simp; omega)] at this
    exact this
  have len : s.length + 1 ≤ 16777216 := by omega
  have len2 : s.length ≤ 16777216 := by omega
  simp only [sl]
  cases s with
  | nil =>
    simp at hs'
    simp only [List.map_nil, List.nil_append] at j1
    simp [p_law_sung_7, c_judge_list, j1]
  | cons x r =>
    have cl := cut_tail (PyData.int x) (r.map .int)
    simp only [List.length_cons] at hs' len len2
    have j2 : ∀ ρ, callD f_judge_sung 2 [.v (.tuple (hs.map .int)), .v (.tuple (r.map .int))] ρ = .ok (.v (.int r.length)) ρ := fun ρ => by
      have := c_judge_len (hs := hs) (bs := r) (by omega) ρ
      rw [if_neg (by omega)] at this
      exact this
    have hl2 : (hs.length : Int) - 1 = r.length := by omega
    have p0 : (0 : Int) < r.length + 1 := by omega
    simp only [List.map_cons, List.cons_append] at j1
    simp [p_law_sung_7, c_judge_list, len, len2, j1, j2, gSl, cl, hl2, p0]
end K20

set_option Elab.async false
set_option linter.all false
set_option autoImplicit false
set_option maxRecDepth 100000
set_option maxHeartbeats 1000000
namespace K20
open PySem PySem.Spec PyProof.Rows L2 VL
@[simp] theorem gNe_nn : gNe .none .none = some (.bool false) := rfl
@[simp] theorem gNe_ni {i : Int} : gNe .none (.int i) = some (.bool true) := rfl
@[simp] theorem gNe_in {i : Int} : gNe (.int i) .none = some (.bool true) := rfl
theorem cut_to {α : Type} (l : List α) (p : Nat) (h : p ≤ l.length) : cutA l none (some (p : Int)) = l.take p := by
  unfold cutA
  rw [HT.sIx_none, HT.sIx_nat]
  simp [Nat.min_eq_left h]
theorem cut_from {α : Type} (l : List α) (p : Nat) (h : p ≤ l.length) : cutA l (some (p : Int)) none = l.drop p := by
  unfold cutA
  rw [HT.sIx_none, HT.sIx_nat, Nat.min_eq_left h]
  rw [List.take_of_length_le]
  rw [List.length_drop]
  omega
theorem sg_at : ∀ {hs bs : List Int} {p : Nat}, Sg hs bs → p < bs.length → (bs[p]?.getD 0) ∈ nm (hs[p]?.getD 0)
  | [], [], _, _, hp => absurd hp (Nat.not_lt_zero _)
  | h :: hs, b :: bs, 0, z, _ => z.1
  | h :: hs, b :: bs, p + 1, z, hp => sg_at (hs := hs) (bs := bs) (p := p) z.2 (by simpa using hp)
  | [], _ :: _, _, z, _ => z.elim
  | _ :: _, [], _, z, _ => z.elim
theorem sung_8 {hs s : List Int} {c : Int} {b : Box} {sc : List Int} (k : StOk b sc) (hl : hs.length ≤ 8) (z : Sg hs s) {s5 s6 s7 s8 : SV} :
    ∃ (b' : Box) (u9 u10 : SV), StOk b' sc ∧ p_law_sung_8 (sl b hs c s s5 s6 s7 s8 .no .no) = .nx (sl b' hs c s s5 s6 s7 s8 u9 u10) := by
  have hs' := sg_len z
  by_cases h0 : s.length = 0
  · refine ⟨b, .no, .no, k, ?_⟩
    simp only [sl]
    simp [p_law_sung_8, h0]
  · obtain ⟨b1, r, k1, r0, r1, e1⟩ := c_draw k (n := (s.length : Int)) (by omega) (by omega)
    obtain ⟨p, rfl⟩ : ∃ p : Nat, r = (p : Int) := ⟨r.toNat, by omega⟩
    have hp : p < s.length := by omega
    have a1 := at_ints (l := s) (i := p) hp
    have a2 := at_ints (l := hs) (i := p) (by omega)
    have j := jf_at (k := 0) z hp (s[p]?.getD 0 + 1)
    have hpos : (0 : Int) < s.length := by omega
    have hposN : 0 < s.length := by omega
    have c1 := cut_to (s.map PyData.int) p (by simp; omega)
    have c2 := cut_from (s.map PyData.int) (p + 1) (by simp; omega)
    rw [show ((p + 1 : Nat) : Int) = (p : Int) + 1 by omega] at c2
    have hlen : (s.take p ++ [s[p]?.getD 0 + 1] ++ s.drop (p + 1)).length = hs.length := by simp; omega
    have cj := c_judge hlen
    rw [j] at cj
    have ew : (s.take p ++ [s[p]?.getD 0 + 1] ++ s.drop (p + 1)).map PyData.int = (s.map PyData.int).take p ++ (PyData.int (s[p]?.getD 0 + 1) :: (s.map PyData.int).drop (p + 1)) := by
      simp [List.map_take, List.map_drop]
    rw [ew] at cj
    have len1 : min p s.length + 1 ≤ 16777216 := by omega
    have len2 : min p s.length + 1 + (s.length - (p + 1)) ≤ 16777216 := by omega
    refine ⟨b1, .val (.int p), .val (.tuple ((s.map PyData.int).take p ++ (PyData.int (s[p]?.getD 0 + 1) :: (s.map PyData.int).drop (p + 1)))), k1, ?_⟩
    simp only [sl] at e1 ⊢
    by_cases hm : (s[p]?.getD 0 + 1) ∈ nm (hs[p]?.getD 0)
    · obtain ⟨m1, m2⟩ := mem_nm.mp hm
      rw [if_pos hm] at cj
      have in4 := c_not4 (s[p]?.getD 0 + 1)
      simp [p_law_sung_8, hpos, hposN, (e1 _).1, a1, a2, gSl, c1, c2, len1, len2, cj, c_syl, syl_no, m2, c_all, in4, m1]
    · rw [if_neg hm] at cj
      have in4 := c_not4 (s[p]?.getD 0 + 1)
      by_cases m2 : (hs[p]?.getD 0) - (s[p]?.getD 0 + 1) ∈ H6
      · have m1 : ¬ ((s[p]?.getD 0 + 1) ∈ B4) := fun q => hm (mem_nm.mpr ⟨q, m2⟩)
        simp [p_law_sung_8, hpos, hposN, (e1 _).1, a1, a2, gSl, c1, c2, len1, len2, cj, c_syl, syl_no, m2, c_all, in4, m1]
      · simp [p_law_sung_8, hpos, hposN, (e1 _).1, a1, a2, gSl, c1, c2, len1, len2, cj, c_syl, syl_no, m2, c_all, in4]
theorem law_sung {hs : List Int} {b : Box} {sc : List Int} (k : StOk b sc) (hl : hs.length ≤ 8) : ∃ b', StOk b' sc ∧ ansIo (f__law_sung [.iol b, .val (.tuple (hs.map .int))]) = some (.bool true, .iol b') := by
  rcases few_spec hs with ⟨e, hx⟩ | ⟨c, s, e, z, hc, hn, hm⟩
  · exact ⟨b, k, sung_none hl e hx⟩
  · have hs' := sg_len z
    have q1 : p_law_sung_1 [.iol b, .val (.tuple (hs.map .int)), .no, .no, .no, .no, .no, .no, .no, .no, .no] = .nx [.iol b, .val (.tuple (hs.map .int)), .val (encR (c, s)), .no, .no, .no, .no, .no, .no, .no, .no] := by
      have := c_few (hs := hs) (by omega)
      rw [e] at this
      simp [p_law_sung_1, this]
    have q2 := sung_2 (b := b) hl hs' e hn
    have q3 : p_law_sung_3 [.iol b, .val (.tuple (hs.map .int)), .val (encR (c, s)), .no, .no, .no, .no, .no, .no, .no, .no] = .nx [.iol b, .val (.tuple (hs.map .int)), .val (encR (c, s)), .no, .no, .no, .no, .no, .no, .no, .no] := by
      simp [p_law_sung_3, isNo_encR]
    have q4 : p_law_sung_4 [.iol b, .val (.tuple (hs.map .int)), .val (encR (c, s)), .no, .no, .no, .no, .no, .no, .no, .no] = .nx (sl b hs c s .no .no .no .no .no .no) := by
      simp [p_law_sung_4, encR_tt, sl]
    have q5 := sung_5 (b := b) hl z hc e
    obtain ⟨b', u5, u6, u7, u8, k', q6a, q6b, q6c, q6d, q6⟩ := sung_6 (c := c) k hl hn hm
    have q7 := sung_7 (b := b') (c := c) hl z (s5 := u5) (s6 := u6) (s7 := u7) (s8 := u8)
    obtain ⟨b2, u9, u10, k2, q8⟩ := sung_8 (c := c) k' hl z (s5 := u5) (s6 := u6) (s7 := u7) (s8 := u8)
    refine ⟨b2, k2, ?_⟩
    unfold f__law_sung fnM
    rw [p_law_sung_is]
    show ansIo (p_law_sung [.iol b, .val (.tuple (hs.map .int)), .no, .no, .no, .no, .no, .no, .no, .no, .no]) = _
    unfold p_law_sung
    simp only [sSeq_run, q1, q2, q3, q4, q5, q6, q7, q8]
    simp [p_law_sung_9, sl, ansIo]
end K20

set_option Elab.async false
set_option linter.all false
set_option autoImplicit false
set_option maxRecDepth 100000
set_option maxHeartbeats 1000000
namespace K20
open PySem PySem.Spec PyProof.Rows L2 VL
def p_law_hand_1 : MS := sAsg (mCall f_all_bases 0 mNil) (gN 1)
def p_law_hand_2 : MS := sIf (mOrT (mB (mOp2 gNe (mVar 1) (mNew (mLc [3] (mItN itR2 (mCons (mOp2 gSub (mConst (.int 0)) (mConst (.int 5))) (mCons (mConst (.int 8)) (mNil)))) (gN 3) (mB (mOp2 gInA (mOp2 gMod (mOpN gInt (mCons (mVar 3) (mNil))) (mConst (.int 12))) (mNew (mLst (mCons (mConst (.int 0)) (mCons (mConst (.int 5)) (mCons (mConst (.int 7)) (mNil)))))))) (mVar 3))))) (mB (mOp2 gNe (mVar 1) (mCall f_bases_between 2 (mCons (mOp2 gSub (mConst (.int 0)) (mConst (.int 5))) (mCons (mConst (.int 7)) (mNil))))))) (sRet (mConst (.bool false))) (sNext)
def p_law_hand_3 : MS := sAsg (mTup (mCons (mConst (.str "ut")) (mCons (mConst (.str "re")) (mCons (mConst (.str "mi")) (mCons (mConst (.str "fa")) (mCons (mConst (.str "sol")) (mCons (mConst (.str "la")) (mNil)))))))) (gN 2)
def p_law_hand_4b_1 : MS := sAsg (mCall f_tones_of 1 (mCons (mVar 3) (mNil))) (gN 4)
def p_law_hand_4b_2 : MS := sIf (mOrT (mB (mOp2 gNe (mVar 4) (mOpN gTuple (mCons (mNew (mLc [11] (mIt itA (mNew (mLst (mCons (mConst (.int 0)) (mCons (mConst (.int 2)) (mCons (mConst (.int 4)) (mCons (mConst (.int 5)) (mCons (mConst (.int 7)) (mCons (mConst (.int 9)) (mNil)))))))))) (gN 11) (mYes) (mOp2 gAdd (mVar 3) (mVar 11)))) (mNil))))) (mB (mOp2 gNe (mOpN gTuple (mCons (mNew (mLc [5] (mIt itA (mVar 4)) (gN 5) (mYes) (mCall f_syllable_of 2 (mCons (mVar 3) (mCons (mVar 5) (mNil)))))) (mNil))) (mVar 2)))) (sRet (mConst (.bool false))) (sNext)
def p_law_hand_4b_3 : MS := sIf (mOrT (mB (mOp2 gNe (mCall f_heights_sung 2 (mCons (mVar 3) (mCons (mVar 2) (mNil)))) (mVar 4))) (mB (mOp2 gNe (mCall f_kind_of 1 (mCons (mVar 3) (mNil))) (mCall f_kind_of 1 (mCons (mOp2 gAdd (mVar 3) (mConst (.int 12))) (mNil)))))) (sRet (mConst (.bool false))) (sNext)
def p_law_hand_4b_4b_1 : MS := sIf (mOrT (mB (mOp2 gNe (mOp2 gIs (mCall f_syllable_of 2 (mCons (mVar 3) (mCons (mVar 5) (mNil)))) (mConst .none)) (mOp2 gNotInA (mVar 5) (mVar 4)))) (mB (mOp2 gNe (mOp2 gInA (mTup (mCons (mVar 3) (mCons (mCall f_syllable_of 2 (mCons (mVar 3) (mCons (mVar 5) (mNil)))) (mNil)))) (mCall f_names_of 1 (mCons (mVar 5) (mNil)))) (mOp2 gInA (mVar 5) (mVar 4))))) (sRet (mConst (.bool false))) (sNext)
def p_law_hand_4b_4b : MS := p_law_hand_4b_4b_1
def p_law_hand_4b_4 : MS := sFor (mItN itR2 (mCons (mOp2 gSub (mConst (.int 0)) (mConst (.int 8))) (mCons (mConst (.int 20)) (mNil)))) (gN 5) p_law_hand_4b_4b
def p_law_hand_4b : MS := sSeq p_law_hand_4b_1 (sSeq p_law_hand_4b_2 (sSeq p_law_hand_4b_3 p_law_hand_4b_4))
def p_law_hand_4 : MS := sFor (mIt itA (mVar 1)) (gN 3) p_law_hand_4b
def p_law_hand_5 : MS := sAsg (mOp2 gIxA (mVar 1) (mCall f__law_draw 2 (mCons (mVar 0) (mCons (mOpN gLen (mCons (mVar 1) (mNil))) (mNil))))) (gN 6)
def p_law_hand_6 : MS := sAsg (mOp2 gIxA (mVar 1) (mCall f__law_draw 2 (mCons (mVar 0) (mCons (mOpN gLen (mCons (mVar 1) (mNil))) (mNil))))) (gN 7)
def p_law_hand_7 : MS := sIf (mOrT (mB (mOp2 gNe (mCall f_shared_by 2 (mCons (mVar 6) (mCons (mVar 7) (mNil)))) (mOpN gTuple (mCons (mNew (mLc [5] (mIt itA (mCall f_tones_of 1 (mCons (mVar 6) (mNil)))) (gN 5) (mB (mOp2 gInA (mVar 5) (mCall f_tones_of 1 (mCons (mVar 7) (mNil))))) (mVar 5))) (mNil))))) (mB (mOp2 gNe (mCall f_shared_by 2 (mCons (mVar 7) (mCons (mVar 6) (mNil)))) (mCall f_shared_by 2 (mCons (mVar 6) (mCons (mVar 7) (mNil))))))) (sRet (mConst (.bool false))) (sNext)
def p_law_hand_8 : MS := sAsg (mOpN gTuple (mCons (mNew (mLc [9] (mItN itR1 (mCons (mCall f__law_draw 2 (mCons (mVar 0) (mCons (mConst (.int 6)) (mNil)))) (mNil))) (gN 9) (mYes) (mOp2 gIxA (mVar 2) (mCall f__law_draw 2 (mCons (mVar 0) (mCons (mConst (.int 6)) (mNil))))))) (mNil))) (gN 8)
def p_law_hand_9 : MS := sRet (mAnd (mOp2 gIs (mCall f_heights_sung 2 (mCons (mVar 6) (mCons (mOp2 gAdd (mVar 8) (mTup (mCons (mConst (.str "si")) (mNil)))) (mNil)))) (mConst .none)) (mOp2 gEq (mOpN gTuple (mCons (mNew (mLc [10] (mIt itA (mCall f_heights_sung 2 (mCons (mVar 6) (mCons (mVar 8) (mNil))))) (gN 10) (mYes) (mCall f_syllable_of 2 (mCons (mVar 6) (mCons (mVar 10) (mNil)))))) (mNil))) (mVar 8)))
def p_law_hand : MS := sSeq p_law_hand_1 (sSeq p_law_hand_2 (sSeq p_law_hand_3 (sSeq p_law_hand_4 (sSeq p_law_hand_5 (sSeq p_law_hand_6 (sSeq p_law_hand_7 (sSeq p_law_hand_8 p_law_hand_9)))))))
theorem p_law_hand_is : m__law_hand = p_law_hand := rfl
def namesL : List PyData := [.str "ut", .str "re", .str "mi", .str "fa", .str "sol", .str "la"]
def slH (b : Box) (s3 s4 s5 s6 s7 s8 : SV) : Rho := [.iol b, .val (.list (B4.map .int)), .val (.tuple namesL), s3, s4, s5, s6, s7, s8, .no, .no, .no]
theorem hand_1 (b : Box) : sSeq p_law_hand_1 (sSeq p_law_hand_2 (sSeq p_law_hand_3 p_law_hand_4)) [.iol b, .no, .no, .no, .no, .no, .no, .no, .no, .no, .no, .no] = .nx (slH b (.val (.int 7)) (.val (.tuple [.int 7, .int 9, .int 11, .int 12, .int 14, .int 16])) (.val (.int 19)) .no .no .no) := by
  kernel_rfl
theorem in_B4 {x : Int} (h : x ∈ B4) : x = -5 ∨ x = 0 ∨ x = 5 ∨ x = 7 := by simpa [B4] using h
theorem hand_7 (b : Box) (one two : Int) (h1 : one ∈ B4) (h2 : two ∈ B4) (s3 s4 : SV) (d5 : PyData) : p_law_hand_7 (slH b s3 s4 (.val d5) (.val (.int one)) (.val (.int two)) .no) = .nx (slH b s3 s4 (.val d5) (.val (.int one)) (.val (.int two)) .no) := by
  rcases in_B4 h1 with rfl | rfl | rfl | rfl <;> rcases in_B4 h2 with rfl | rfl | rfl | rfl <;> kernel_rfl
def nmAt (r : Nat) : PyData := namesL.getD r .none
def hAt (r : Nat) : Int := H6.getD r 0
theorem lt6 {r : Nat} (h : r < 6) : r = 0 ∨ r = 1 ∨ r = 2 ∨ r = 3 ∨ r = 4 ∨ r = 5 := by omega
theorem syl_at (r : Nat) (h : r < 6) : syl (hAt r) = nmAt r := by
  rcases lt6 h with rfl | rfl | rfl | rfl | rfl | rfl <;> rfl
abbrev hsB : MS := (sSeq (sIf (mB (mOp2 gNotInA (mVar 3) (mConst (.tuple [.str "ut", .str "re", .str "mi", .str "fa", .str "sol", .str "la"])))) (sRet (mConst .none)) (sNext))
  (sExpr (mMeth "list" 2 gAppend (mCons (mOp2 gAdd (mVar 0) (mOp2 gIxA (mConst (.tuple [.int 0, .int 2, .int 4, .int 5, .int 7, .int 9])) (mOpN (gIndex [.str "ut", .str "re", .str "mi", .str "fa", .str "sol", .str "la"]) (mCons (mVar 3) (mNil))))) (mNil)))))
theorem hs_in (r : Nat) (h : r < 6) : gNotInA (nmAt r) (.tuple [.str "ut", .str "re", .str "mi", .str "fa", .str "sol", .str "la"]) = some (.bool false) := by
  rcases lt6 h with rfl | rfl | rfl | rfl | rfl | rfl <;> kernel_rfl
theorem hs_ix (r : Nat) (h : r < 6) : gIndex [.str "ut", .str "re", .str "mi", .str "fa", .str "sol", .str "la"] [nmAt r] = some (.int r) := by
  rcases lt6 h with rfl | rfl | rfl | rfl | rfl | rfl <;> kernel_rfl
theorem hs_at (r : Nat) (h : r < 6) : atI [PyData.int 0, .int 2, .int 4, .int 5, .int 7, .int 9] (r : Int) = some (.int (hAt r)) := by
  rcases lt6 h with rfl | rfl | rfl | rfl | rfl | rfl <;> kernel_rfl
theorem hs_loop (one : Int) (d1 : PyData) : ∀ (rs : List Nat) (acc : List Int) (s3 : SV), (∀ r ∈ rs, r < 6) → acc.length + rs.length ≤ 100 → sNo s3 → ∃ u3, sNo u3 ∧ sLoop (gN 3) hsB (rs.map nmAt) [.val (.int one), .val d1, .lst (.li (acc.map .int)), s3] = .nx [.val (.int one), .val d1, .lst (.li ((acc ++ rs.map fun r => one + hAt r).map .int)), u3]
  | [], acc, s3, _, _, h3 => ⟨s3, h3, by simp [sLoop]⟩
  | r :: rs, acc, s3, hr, hl, h3 => by
    rw [List.length_cons] at hl
    have h6 := hr r List.mem_cons_self
    obtain ⟨u3, k3, e⟩ := hs_loop one d1 rs (acc ++ [one + hAt r]) (.val (nmAt r)) (fun x hx => hr x (List.mem_cons_of_mem _ hx)) (by simp; omega) sNo_val
    refine ⟨u3, k3, ?_⟩
    rw [List.map_cons]
    unfold sLoop
    have go : gN 3 (nmAt r) [.val (.int one), .val d1, .lst (.li (acc.map .int)), s3] = some [.val (.int one), .val d1, .lst (.li (acc.map .int)), .val (nmAt r)] := by
      rcases h3 with rfl | ⟨_, rfl⟩ <;> rfl
    rw [go]
    dsimp only
    have al : acc.length < 16777216 := by omega
    have st : hsB [.val (.int one), .val d1, .lst (.li (acc.map .int)), .val (nmAt r)] = .nx [.val (.int one), .val d1, .lst (.li ((acc ++ [one + hAt r]).map .int)), .val (nmAt r)] := by
      simp [hsB, hs_in r h6, hs_ix r h6, hs_at r h6, al]
    rw [st]
    dsimp only
    rw [e]
    simp
theorem s_hs (one : Int) (rs : List Nat) (hr : ∀ r ∈ rs, r < 6) (hl : rs.length ≤ 50) : ans (f_heights_sung [.val (.int one), .val (.tuple (rs.map nmAt))]) = some (.tuple ((rs.map fun r => one + hAt r).map .int)) := by
  obtain ⟨u3, k3, e⟩ := hs_loop one (.tuple (rs.map nmAt)) rs [] .no hr (by simp; omega) (.inl rfl)
  unfold hsB at e
  simp only [List.map_nil, List.nil_append] at e
  simp [f_heights_sung, fnM, m_heights_sung, List.replicate, e, ans]
theorem hs_si : gNotInA (.str "si") (.tuple [.str "ut", .str "re", .str "mi", .str "fa", .str "sol", .str "la"]) = some (.bool true) := by kernel_rfl
theorem hs_step (one : Int) (d1 : PyData) (r : Nat) (h6 : r < 6) (acc : List Int) (al : acc.length < 16777216) : hsB [.val (.int one), .val d1, .lst (.li (acc.map .int)), .val (nmAt r)] = .nx [.val (.int one), .val d1, .lst (.li ((acc ++ [one + hAt r]).map .int)), .val (nmAt r)] := by
  simp [hsB, hs_in r h6, hs_ix r h6, hs_at r h6, al]
theorem hs_go {one : Int} {d1 : PyData} {x : PyData} {s2 s3 : SV} (h3 : sNo s3) : gN 3 x [.val (.int one), .val d1, s2, s3] = some [.val (.int one), .val d1, s2, .val x] := by
  rcases h3 with rfl | ⟨_, rfl⟩ <;> rfl
theorem hs_loop_si (one : Int) (d1 : PyData) : ∀ (rs : List Nat) (acc : List Int) (s3 : SV), (∀ r ∈ rs, r < 6) → acc.length + rs.length ≤ 100 → sNo s3 → ∃ ρ, sLoop (gN 3) hsB (rs.map nmAt ++ [.str "si"]) [.val (.int one), .val d1, .lst (.li (acc.map .int)), s3] = .rt .none ρ
  | [], acc, s3, _, _, h3 => by
    refine ⟨[.val (.int one), .val d1, .lst (.li (acc.map .int)), .val (.str "si")], ?_⟩
    show sLoop (gN 3) hsB [.str "si"] _ = _
    unfold sLoop
    rw [hs_go h3]
    simp [hsB, hs_si]
  | r :: rs, acc, s3, hr, hl, h3 => by
    rw [List.length_cons] at hl
    have h6 := hr r List.mem_cons_self
    obtain ⟨ρ, e⟩ := hs_loop_si one d1 rs (acc ++ [one + hAt r]) (.val (nmAt r)) (fun x hx => hr x (List.mem_cons_of_mem _ hx)) (by simp; omega) sNo_val
    refine ⟨ρ, ?_⟩
    rw [List.map_cons, List.cons_append]
    unfold sLoop
    rw [hs_go h3]
    dsimp only
    rw [hs_step one d1 r h6 acc (by omega)]
    exact e
theorem s_hs_si (one : Int) (rs : List Nat) (hr : ∀ r ∈ rs, r < 6) (hl : rs.length ≤ 50) : ans (f_heights_sung [.val (.int one), .val (.tuple (rs.map nmAt ++ [.str "si"]))]) = some .none := by
  obtain ⟨ρ, e⟩ := hs_loop_si one (.tuple (rs.map nmAt ++ [.str "si"])) rs [] .no hr (by simp; omega) (.inl rfl)
  unfold hsB at e
  simp only [List.map_nil] at e
  simp [f_heights_sung, fnM, m_heights_sung, List.replicate, e, ans]
theorem c_hs (one : Int) (rs : List Nat) (hr : ∀ r ∈ rs, r < 6) (hl : rs.length ≤ 50) (ρ : Rho) : callD f_heights_sung 2 [.v (.int one), .v (.tuple (rs.map nmAt))] ρ = .ok (.v (.tuple ((rs.map fun r => one + hAt r).map .int))) ρ := callV2 (s_hs one rs hr hl)
theorem c_hs_si (one : Int) (rs : List Nat) (hr : ∀ r ∈ rs, r < 6) (hl : rs.length ≤ 50) (ρ : Rho) : callD f_heights_sung 2 [.v (.int one), .v (.tuple (rs.map nmAt ++ [.str "si"]))] ρ = .ok (.v .none) ρ := callV2 (s_hs_si one rs hr hl)
/-! the drawn words -/
theorem nm_ix (r : Nat) (h : r < 6) : atI namesL (r : Int) = some (nmAt r) := by
  rcases lt6 h with rfl | rfl | rfl | rfl | rfl | rfl <;> rfl
theorem word_loop {sc : List Int} {s3 s4 s5 s6 s7 s8 : SV} : ∀ (l : List Int) (b : Box), StOk b sc → ∃ (b' : Box) (rs : List Nat), StOk b' sc ∧ (∀ r ∈ rs, r < 6) ∧ rs.length = l.length ∧
    lcLoop [9] (gN 9) mYes (mFrz (mOp2 gIxA (mVar 2) (mCall f__law_draw 2 (mCons (mVar 0) (mCons (mConst (.int 6)) (mNil)))))) (l.map .int) (slH b s3 s4 s5 s6 s7 s8) = .ok (rs.map nmAt) (slH b' s3 s4 s5 s6 s7 s8)
  | [], b, k => ⟨b, [], k, fun r h => (by cases h), rfl, rfl⟩
  | i :: l, b, k => by
    obtain ⟨b1, r, k1, r0, r1, e1⟩ := c_draw k (n := 6) (by decide) (by decide)
    obtain ⟨p, rfl⟩ : ∃ p : Nat, r = (p : Int) := ⟨r.toNat, by omega⟩
    have hp : p < 6 := by omega
    obtain ⟨b', rs, k', hr, hl, e⟩ := word_loop (s3 := s3) (s4 := s4) (s5 := s5) (s6 := s6) (s7 := s7) (s8 := s8) l b1 k1
    refine ⟨b', p :: rs, k', fun r hr' => ?_, by simp [hl], ?_⟩
    · rcases List.mem_cons.mp hr' with rfl | h
      · exact hp
      · exact hr r h
    · rw [List.map_cons, lc_cons]
      have st : lcStep [9] (gN 9) mYes (mFrz (mOp2 gIxA (mVar 2) (mCall f__law_draw 2 (mCons (mVar 0) (mCons (mConst (.int 6)) (mNil)))))) (.int i) (slH b s3 s4 s5 s6 s7 s8) = .ok (some (nmAt p)) (slH b1 s3 s4 s5 s6 s7 s8) := by
        have ni := nm_ix p hp
        simp [lcStep, wipeR, unwipe, slH, (e1 _).1, ni]
      rw [st]
      dsimp only
      rw [e]
      rfl
theorem flat_nm (r : Nat) (h : r < 6) : flat (nmAt r) = true := by
  rcases lt6 h with rfl | rfl | rfl | rfl | rfl | rfl <;> kernel_rfl
theorem hand_8 {b : Box} {sc : List Int} (k : StOk b sc) {s3 s4 s5 s6 s7 : SV} : ∃ (b' : Box) (rs : List Nat), StOk b' sc ∧ (∀ r ∈ rs, r < 6) ∧ rs.length ≤ 5 ∧ p_law_hand_8 (slH b s3 s4 s5 s6 s7 .no) = .nx (slH b' s3 s4 s5 s6 s7 (.val (.tuple (rs.map nmAt)))) := by
  obtain ⟨b1, n, k1, n0, n1, e1⟩ := c_draw k (n := 6) (by decide) (by decide)
  obtain ⟨b', rs, k', hr, hl, e⟩ := word_loop (s3 := s3) (s4 := s4) (s5 := s5) (s6 := s6) (s7 := s7) (s8 := .no) ((List.range n.toNat).map fun k : Nat => 0 + (k : Int)) b1 k1
  rw [← rangeD_ints] at e
  have er := r1_small (i := n) (by omega) (by omega)
  have hl' : rs.length ≤ 5 := by rw [hl]; simp; omega
  have len : (rangeD 0 n.toNat).length ≤ 16777216 := by rw [rangeD_len]; omega
  refine ⟨b', rs, k', hr, hl', ?_⟩
  simp only [slH] at e ⊢
  simp [p_law_hand_8, (e1 _).1, er, len, e]
theorem hand_9 {b : Box} {one : Int} {rs : List Nat} (hr : ∀ r ∈ rs, r < 6) (hl : rs.length ≤ 5) {s3 s4 s5 s7 : SV} : ∃ ρ, p_law_hand_9 (slH b s3 s4 s5 (.val (.int one)) s7 (.val (.tuple (rs.map nmAt)))) = .rt (.bool true) (.iol b :: ρ) := by
  refine ⟨[.val (.list (B4.map .int)), .val (.tuple namesL), s3, s4, s5, .val (.int one), s7, .val (.tuple (rs.map nmAt)), .no, .no, .no], ?_⟩
  have l := lc_map (own := [10]) (t := gN 10) (mt := mYes) (me := mFrz (mCall f_syllable_of 2 (mCons (mVar 6) (mCons (mVar 10) (mNil))))) (ρ := slH b s3 s4 s5 (.val (.int one)) s7 (.val (.tuple (rs.map nmAt)))) PyData.int (fun h => some (syl (h - one))) (rs.map fun r => one + hAt r) fun h _ => by
    simp [lcStep, wipeR, unwipe, slH, c_syl]
  have ef : (rs.map fun r => one + hAt r).filterMap (fun h => some (syl (h - one))) = rs.map nmAt := by
    rw [filterMap_all, List.map_map]
    apply List.map_congr_left
    intro r h
    show syl (one + hAt r - one) = nmAt r
    rw [show one + hAt r - one = hAt r by omega, syl_at r (hr r h)]
  rw [ef] at l
  have len : rs.length ≤ 16777216 := by omega
  have len1 : rs.length + 1 ≤ 16777216 := by omega
  have sh : SeqAt.shaped (.tuple (rs.map nmAt)) = true := shaped_t fun d hd => by
    obtain ⟨r, h, rfl⟩ := List.mem_map.mp hd
    exact flat_nm r (hr r h)
  have h1 := c_hs one rs hr (by omega)
  have h2 := c_hs_si one rs hr (by omega)
  simp only [slH] at l ⊢
  simp [-List.map_map, p_law_hand_9, len, len1, h1, h2, l, gEq_same sh]
theorem law_hand {b : Box} {sc : List Int} (k : StOk b sc) : ∃ b', StOk b' sc ∧ ansIo (f__law_hand [.iol b]) = some (.bool true, .iol b') := by
  have q1 := hand_1 b
  obtain ⟨b1, r1, k1, p1, q1', e1⟩ := c_draw k (n := 4) (by decide) (by decide)
  obtain ⟨b2, r2, k2, p2, q2', e2⟩ := c_draw k1 (n := 4) (by decide) (by decide)
  obtain ⟨i1, rfl⟩ : ∃ p : Nat, r1 = (p : Int) := ⟨r1.toNat, by omega⟩
  obtain ⟨i2, rfl⟩ : ∃ p : Nat, r2 = (p : Int) := ⟨r2.toNat, by omega⟩
  have a1 := at_ints (l := B4) (i := i1) (by show i1 < 4; omega)
  have a2 := at_ints (l := B4) (i := i2) (by show i2 < 4; omega)
  have m1 : B4[i1]?.getD 0 ∈ B4 := by
    have : i1 < B4.length := by show i1 < 4; omega
    rw [List.getElem?_eq_getElem this]; exact List.getElem_mem this
  have m2 : B4[i2]?.getD 0 ∈ B4 := by
    have : i2 < B4.length := by show i2 < 4; omega
    rw [List.getElem?_eq_getElem this]; exact List.getElem_mem this
  generalize B4[i1]?.getD 0 = one at *
  generalize B4[i2]?.getD 0 = two at *
  have l4 : B4.length = 4 := rfl
  have q5 : ∀ s3 s4 s5, p_law_hand_5 (slH b s3 s4 s5 .no .no .no) = .nx (slH b1 s3 s4 s5 (.val (.int one)) .no .no) := fun s3 s4 s5 => by
    simp only [slH]
    simp [p_law_hand_5, l4, (e1 _).1, a1]
  have q6 : ∀ s3 s4 s5 s6, p_law_hand_6 (slH b1 s3 s4 s5 s6 .no .no) = .nx (slH b2 s3 s4 s5 s6 (.val (.int two)) .no) := fun s3 s4 s5 s6 => by
    simp only [slH]
    simp [p_law_hand_6, l4, (e2 _).1, a2]
  have q7 := hand_7 b2 one two m1 m2
  obtain ⟨b3, rs, k3, hr, hl, q8⟩ := hand_8 k2 (s3 := (.val (.int 7))) (s4 := (.val (.tuple [.int 7, .int 9, .int 11, .int 12, .int 14, .int 16]))) (s5 := (.val (.int 19))) (s6 := .val (.int one)) (s7 := .val (.int two))
  obtain ⟨ρ, q9⟩ := hand_9 (b := b3) (one := one) hr hl (s3 := (.val (.int 7))) (s4 := (.val (.tuple [.int 7, .int 9, .int 11, .int 12, .int 14, .int 16]))) (s5 := (.val (.int 19))) (s7 := .val (.int two))
  refine ⟨b3, k3, ?_⟩
  unfold f__law_hand fnM
  rw [p_law_hand_is]
  show ansIo (p_law_hand [.iol b, .no, .no, .no, .no, .no, .no, .no, .no, .no, .no, .no]) = _
  have as : ∀ (m n o p q : MS) (ρ : Rho), sSeq m (sSeq n (sSeq o (sSeq p q))) ρ = sSeq (sSeq m (sSeq n (sSeq o p))) q ρ := fun m n o p q ρ => by
    simp only [sSeq_run]
    cases m ρ with
    | nx ρ1 =>
      dsimp only
      cases n ρ1 with
      | nx ρ2 =>
        dsimp only
        cases o ρ2 <;> rfl
      | _ => rfl
    | _ => rfl
  unfold p_law_hand
  rw [as, sSeq_run, q1]
  simp only [sSeq_run, q5, q6, q7, q8, q9]
  rfl
end K20

set_option Elab.async false
set_option linter.all false
set_option autoImplicit false
set_option maxRecDepth 100000
namespace K20
/-! ### finite facts about plans -/
def rowN (p r t : Nat) : List Int := (List.range (p * t + r * (t - 1))).map fun i => if i % (p + r) < p then 1 else 0
def rowB (p r t : Nat) : List Int := (List.replicate (t - 1) ((List.replicate p [1]).flatten ++ (List.replicate r [0]).flatten)).flatten ++ (List.replicate p [1]).flatten
def planK (row : List Int) (t k : Nat) : Option (Nat × Nat) := if (row.length - (k + 1) * t) % (t - 1) = 0 ∧ rowN (k + 1) ((row.length - (k + 1) * t) / (t - 1)) t = row then some (k + 1, (row.length - (k + 1) * t) / (t - 1)) else none
def planF (row : List Int) (t : Nat) : Option (Nat × Nat) := (List.range (row.length / t)).findSome? (planK row t)
theorem row_is0 : ∀ p < 9, ∀ r < 6, ∀ t < 4, rowN (p + 1) r (t + 2) = rowB (p + 1) r (t + 2) := by decide +kernel
theorem plan_is0 : ∀ p < 9, ∀ r < 6, ∀ t < 4, planF (rowN (p + 1) r (t + 2)) (t + 2) = some (p + 1, r) ∧ planF (rowN (p + 1) r (t + 2) ++ [0]) (t + 2) = none := by decide +kernel
theorem fill_is0 : ∀ W < 62, ∀ t < 4, ((List.range (W / (t + 2))).filter fun k => (W - (k + 1) * (t + 2)) % (t + 1) = 0).length = ((List.range W).filter fun k => (k + 1) * (t + 2) ≤ W ∧ (W - (k + 1) * (t + 2)) % (t + 1) = 0).length := by decide +kernel
def shrL : Nat → Int → Int → List Int
  | 0, _, _ => []
  | n + 1, here, st => if 0 < here then here :: shrL n (here - st) st else []
theorem shr_is0 : ∀ p < 9, ∀ st < 3, shrL 10 ((p + 1 : Nat) : Int) ((st + 1 : Nat) : Int) = ((List.range (p + 1)).filter fun (k : Nat) => decide ((0 : Int) < ((p + 1 : Nat) : Int) - (k : Int) * ((st + 1 : Nat) : Int))).map fun (k : Nat) => ((p + 1 : Nat) : Int) - (k : Int) * ((st + 1 : Nat) : Int) := by decide +kernel
end K20

set_option Elab.async false
set_option linter.all false
set_option autoImplicit false
set_option maxRecDepth 100000
set_option maxHeartbeats 1000000
namespace K20
open PySem PySem.Spec PyProof.Rows L2 VL
/-! ### phrases told again, in plain words -/
theorem flat_i (i : Int) : flat (.int i) = true := rfl
theorem shaped_li (xs : List Int) : SeqAt.shaped (.list (xs.map .int)) = true := shaped_l fun d hd => by
  obtain ⟨x, _, rfl⟩ := List.mem_map.mp hd
  rfl
theorem shaped_ti (xs : List Int) : SeqAt.shaped (.tuple (xs.map .int)) = true := shaped_t fun d hd => by
  obtain ⟨x, _, rfl⟩ := List.mem_map.mp hd
  rfl
def Ln (p r t : Nat) : Nat := p * t + r * (t - 1)
def pl (p r t : Nat) : PyData := .tuple [.int p, .int r, .int t]
theorem mO {x j : Int} (h1 : -1000000 < j) (h2 : j < 1000000) : mulOk x j = true := mulOk_r (by omega) (by omega)
theorem Ln_cast {p r t : Nat} (ht : 1 ≤ t) : ((Ln p r t : Nat) : Int) = (p : Int) * t + r * ((t : Int) - 1) := by
  unfold Ln
  obtain ⟨u, rfl⟩ : ∃ u, t = u + 1 := ⟨t - 1, by omega⟩
  have e : u + 1 - 1 = u := by omega
  rw [e]
  push_cast
  rw [show (u : Int) + 1 - 1 = u by omega]
section
variable {p r t c s : Nat}
theorem s_len (h1 : 1 ≤ t) (h2 : t < 1000) : ans (f_length_of [.val (pl p r t)]) = some (.int (Ln p r t)) := by
  have m1 : mulOk (p : Int) t = true := mO (by omega) (by omega)
  have m2 : mulOk (r : Int) ((t : Int) - 1) = true := mO (by omega) (by omega)
  simp [f_length_of, fnM, m_length_of, List.replicate, pl, m1, m2, ans, Ln_cast h1]
theorem c_len (h1 : 1 ≤ t) (h2 : t < 1000) (ρ : Rho) : callD f_length_of 1 [.v (pl p r t)] ρ = .ok (.v (.int (Ln p r t))) ρ := callV1 (s_len h1 h2)
theorem s_end {s : Int} (h1 : 1 ≤ t) (h2 : t < 1000) (hc : 1 ≤ c) : ans (f_end_from [.val (pl p r t), .val (.int c), .val (.int s)]) = some (.int ((s + (Ln p r t : Nat) - 1).fmod c)) := by
  have hc' : ¬ c = 0 := by omega
  simp [f_end_from, fnM, m_end_from, List.replicate, c_len h1 h2, hc', ans]
theorem c_end {s : Int} (h1 : 1 ≤ t) (h2 : t < 1000) (hc : 1 ≤ c) (ρ : Rho) : callD f_end_from 3 [.v (pl p r t), .v (.int c), .v (.int s)] ρ = .ok (.v (.int ((s + (Ln p r t : Nat) - 1).fmod c))) ρ := callV3 (s_end h1 h2 hc)
theorem s_start (h1 : 1 ≤ t) (h2 : t < 1000) (hc : 1 ≤ c) : ans (f_start_for [.val (pl p r t), .val (.int c)]) = some (.int ((1 - (Ln p r t : Int)).fmod c)) := by
  have hc' : ¬ c = 0 := by omega
  simp [f_start_for, fnM, m_start_for, List.replicate, c_len h1 h2, hc', ans]
theorem c_start (h1 : 1 ≤ t) (h2 : t < 1000) (hc : 1 ≤ c) (ρ : Rho) : callD f_start_for 2 [.v (pl p r t), .v (.int c)] ρ = .ok (.v (.int ((1 - (Ln p r t : Int)).fmod c))) ρ := callV2 (s_start h1 h2 hc)
theorem s_cyc (h1 : 1 ≤ t) (h2 : t < 1000) (hc : 1 ≤ c) (hc2 : c < 1000) : ans (f_cycles_of [.val (pl p r t), .val (.int c)]) = some (.int (((Ln p r t : Int) - 1 + c - 1).fdiv c)) := by
  have hc' : ¬ c = 0 := by omega
  have hc3 : c < 1073741824 := by omega
  simp [f_cycles_of, fnM, m_cycles_of, List.replicate, c_len h1 h2, hc', hc3, ans]
theorem c_cyc (h1 : 1 ≤ t) (h2 : t < 1000) (hc : 1 ≤ c) (hc2 : c < 1000) (ρ : Rho) : callD f_cycles_of 2 [.v (pl p r t), .v (.int c)] ρ = .ok (.v (.int (((Ln p r t : Int) - 1 + c - 1).fdiv c))) ρ := callV2 (s_cyc h1 h2 hc hc2)
/-- the last stroke falls on the first place -/
def ends (p r t c : Nat) (s : Int) : Prop := (s + (Ln p r t : Nat) - 1).fmod c = 0
instance {s : Int} : Decidable (ends p r t c s) := inferInstanceAs (Decidable (_ = _))
theorem fm_ints {P : Nat → Prop} [DecidablePred P] {f : Nat → Int} (l : List Nat) : (l.filterMap fun i => if P i then some (PyData.int (f i)) else none) = ((l.filter fun i => decide (P i)).map f).map .int := by
  rw [fm_if P (fun i => PyData.int (f i)) l, List.map_map]
  rfl
theorem rangeD0 {n : Nat} : rangeD 0 n = (List.range n).map fun i : Nat => PyData.int (i : Int) := by
  unfold rangeD
  apply List.map_congr_left
  intro i _
  rw [show (0 : Int) + (i : Nat) = (i : Nat) by omega]
theorem rangeD1 {n : Nat} : rangeD 1 n = (List.range n).map fun i : Nat => PyData.int ((i + 1 : Nat) : Int) := by
  unfold rangeD
  apply List.map_congr_left
  intro i _
  rw [show (1 : Int) + (i : Nat) = ((i + 1 : Nat) : Int) by omega]
theorem lenR0 {n : Nat} : ((List.range n).map fun i : Nat => PyData.int (i : Int)).length = n := by simp
def restsL (p t c : Nat) (s : Int) (n : Nat) : List Int := ((List.range n).filter fun i : Nat => decide (ends p i t c s)).map fun i : Nat => (i : Int)
theorem s_rests {s : Int} {m : Nat} (h1 : 1 ≤ t) (h2 : t < 1000) (hc : 1 ≤ c) (m1 : m < 900) : ans (f_rests_for [.val (.int p), .val (.int t), .val (.int c), .val (.int s), .val (.int m)]) = some (.list ((restsL p t c s (m + 1)).map .int)) := by
  have l := lc_map (own := [5]) (t := gN 5) (mt := (mB (mOp2 gEq (mCall f_end_from 3 (mCons (mTup (mCons (mVar 0) (mCons (mVar 5) (mCons (mVar 1) (mNil))))) (mCons (mVar 2) (mCons (mVar 3) (mNil))))) (mConst (.int 0))))) (me := mFrz (mVar 5)) (ρ := [.val (.int p), .val (.int t), .val (.int c), .val (.int s), .val (.int m), .no]) (fun i : Nat => PyData.int (i : Int)) (fun i => if ends p i t c s then some (.int (i : Int)) else none) (List.range (m + 1)) fun i _ => by
    have ce := c_end (p := p) (r := i) (s := s) h1 h2 hc
    unfold pl at ce
    by_cases h : ends p i t c s
    · have h' := h
      unfold ends at h'
      simp [lcStep, wipeR, unwipe, ce, h, h']
    · have h' := h
      unfold ends at h'
      simp [lcStep, wipeR, unwipe, ce, h, h']
  rw [fm_ints] at l
  have er : itR1 [.int ((m : Int) + 1)] = some ((List.range (m + 1)).map fun i : Nat => PyData.int (i : Int)) := by
    rw [r1_small (by omega) (by omega), rangeD0, show ((m : Int) + 1).toNat = m + 1 by omega]
  have len : m + 1 ≤ 16777216 := by omega
  simp only [f_rests_for, fnM, m_rests_for]
  simp only [sRet_run, mFrz_run, mNew_run, mLc_run, mItN_run, mFrzs_run, mCons_run, mOp2_run, mNil_run, mVar_run, mConst_run]
  simp [List.replicate, er, len, l, ans, restsL]
end
end K20

set_option Elab.async false
set_option linter.all false
set_option autoImplicit false
set_option maxRecDepth 100000
set_option maxHeartbeats 1000000
namespace K20
open PySem PySem.Spec PyProof.Rows L2 VL
section
variable {p r t c : Nat} {s : Int}
theorem c_rests {m : Nat} (h1 : 1 ≤ t) (h2 : t < 1000) (hc : 1 ≤ c) (m1 : m < 900) (ρ : Rho) : callD f_rests_for 5 [.v (.int p), .v (.int t), .v (.int c), .v (.int s), .v (.int m)] ρ = .ok (.v (.list ((restsL p t c s (m + 1)).map .int))) ρ := callV5 (s_rests h1 h2 hc m1)
def phrL (r t c : Nat) (s : Int) (n : Nat) : List Int := ((List.range n).filter fun i : Nat => decide (ends (i + 1) r t c s)).map fun i : Nat => ((i + 1 : Nat) : Int)
theorem s_phr {m : Nat} (h1 : 1 ≤ t) (h2 : t < 1000) (hc : 1 ≤ c) (m1 : m < 900) : ans (f_phrases_for [.val (.int r), .val (.int t), .val (.int c), .val (.int s), .val (.int m)]) = some (.list ((phrL r t c s m).map .int)) := by
  have l := lc_map (own := [5]) (t := gN 5) (mt := (mB (mOp2 gEq (mCall f_end_from 3 (mCons (mTup (mCons (mVar 5) (mCons (mVar 0) (mCons (mVar 1) (mNil))))) (mCons (mVar 2) (mCons (mVar 3) (mNil))))) (mConst (.int 0))))) (me := mFrz (mVar 5)) (ρ := [.val (.int r), .val (.int t), .val (.int c), .val (.int s), .val (.int m), .no]) (fun i : Nat => PyData.int ((i + 1 : Nat) : Int)) (fun i => if ends (i + 1) r t c s then some (.int ((i + 1 : Nat) : Int)) else none) (List.range m) fun i _ => by
    have ce := c_end (p := i + 1) (r := r) (s := s) h1 h2 hc
    unfold pl at ce
    generalize i + 1 = j at *
    by_cases h : ends j r t c s
    · have h' := h
      unfold ends at h'
      simp [lcStep, wipeR, unwipe, ce, h, h']
    · have h' := h
      unfold ends at h'
      simp [lcStep, wipeR, unwipe, ce, h, h']
  rw [fm_ints] at l
  have er : itR2 [.int 1, .int ((m : Int) + 1)] = some ((List.range m).map fun i : Nat => PyData.int ((i + 1 : Nat) : Int)) := by
    rw [r2_small (by omega) (by omega) (by omega) (by omega), rangeD1, show ((m : Int) + 1 - 1).toNat = m by omega]
  have len : m ≤ 16777216 := by omega
  simp only [f_phrases_for, fnM, m_phrases_for]
  simp only [sRet_run, mFrz_run, mNew_run, mLc_run, mItN_run, mFrzs_run, mCons_run, mOp2_run, mNil_run, mVar_run, mConst_run]
  simp only [List.length_cons, List.length_nil, List.replicate, List.cons_append, List.nil_append]
  simp [-Int.natCast_add, er, len, l, ans, phrL]
theorem c_phr {m : Nat} (h1 : 1 ≤ t) (h2 : t < 1000) (hc : 1 ≤ c) (m1 : m < 900) (ρ : Rho) : callD f_phrases_for 5 [.v (.int r), .v (.int t), .v (.int c), .v (.int s), .v (.int m)] ρ = .ok (.v (.list ((phrL r t c s m).map .int))) ρ := callV5 (s_phr h1 h2 hc m1)
def firstD : List Int → PyData
  | [] => .none
  | x :: _ => .int x
theorem s_first (h1 : 1 ≤ t) (h2 : t < 1000) (hc : 1 ≤ c) (hc2 : c < 900) : ans (f_first_rest [.val (.int p), .val (.int t), .val (.int c), .val (.int s)]) = some (firstD (restsL p t c s (c + 1))) := by
  have cr := c_rests (p := p) (s := s) (m := c) h1 h2 hc hc2
  simp [f_first_rest, fnM, m_first_rest, List.replicate, cr]
  cases q : restsL p t c s (c + 1) with
  | nil => simp [ans, firstD]
  | cons x l => simp [ans, firstD, at_zero]
theorem c_first (h1 : 1 ≤ t) (h2 : t < 1000) (hc : 1 ≤ c) (hc2 : c < 900) (ρ : Rho) : callD f_first_rest 4 [.v (.int p), .v (.int t), .v (.int c), .v (.int s)] ρ = .ok (.v (firstD (restsL p t c s (c + 1)))) ρ := callV4 (s_first h1 h2 hc hc2)
/-! strokes -/
def strL (p r t c : Nat) (s : Int) : List Int := (List.range t).map fun i : Nat => (s + (i : Int) * ((p : Int) + r)).fmod c
theorem s_str (h2 : t < 900) (hc : 1 ≤ c) (hp : p < 900) (hr : r < 900) : ans (f_strokes_at [.val (pl p r t), .val (.int c), .val (.int s)]) = some (.tuple ((strL p r t c s).map .int)) := by
  have hc' : ¬ c = 0 := by omega
  have mo : ∀ i : Int, mulOk i ((p : Int) + r) = true := fun i => mO (by omega) (by omega)
  have l := lc_map (own := [6]) (t := gN 6) (mt := mYes) (me := mFrz (mOp2 gMod (mOp2 gAdd (mVar 2) (mOp2 gMul (mVar 6) (mOp2 gAdd (mVar 3) (mVar 4)))) (mVar 1))) (ρ := [.val (pl p r t), .val (.int c), .val (.int s), .val (.int p), .val (.int r), .val (.int t), .no]) (fun i : Nat => PyData.int (i : Int)) (fun i => some (.int ((s + (i : Int) * ((p : Int) + r)).fmod c))) (List.range t) fun i _ => by
    simp [lcStep, wipeR, unwipe, mo, hc']
  rw [filterMap_all] at l
  have er : itR1 [.int (t : Int)] = some ((List.range t).map fun i : Nat => PyData.int (i : Int)) := by
    rw [r1_small (by omega) (by omega), rangeD0, show (t : Int).toNat = t by omega]
  have len : t ≤ 16777216 := by omega
  unfold pl at l
  simp [f_strokes_at, fnM, m_strokes_at, List.replicate, pl, er, len, l, ans, strL, List.map_map]
theorem c_str (h2 : t < 900) (hc : 1 ≤ c) (hp : p < 900) (hr : r < 900) (ρ : Rho) : callD f_strokes_at 3 [.v (pl p r t), .v (.int c), .v (.int s)] ρ = .ok (.v (.tuple ((strL p r t c s).map .int))) ρ := callV3 (s_str h2 hc hp hr)
/-! sounding -/
theorem fmod_nat (i n : Nat) : (i : Int).fmod n = ((i % n : Nat) : Int) := by
  rw [Int.fmod_eq_emod_of_nonneg _ (by omega)]
  simp
theorem s_snd {i : Nat} (h1 : 1 ≤ t) (h2 : t < 1000) (hp : 1 ≤ p) (hi : i < Ln p r t) : ans (f_is_sounding [.val (pl p r t), .val (.int i)]) = some (.bool (decide (i % (p + r) < p))) := by
  have e := fmod_nat i (p + r)
  have q : ¬ ((p : Int) + r = 0) := by omega
  have cl := c_len (p := p) (r := r) h1 h2
  unfold pl at cl ⊢
  push_cast at e
  have a0 : ∀ x y z : PyData, atI [x, y, z] 0 = some x := fun _ _ _ => rfl
  have a1 : ∀ x y z : PyData, atI [x, y, z] 1 = some y := fun _ _ _ => rfl
  simp [f_is_sounding, fnM, m_is_sounding, List.replicate, cl, hi, a0, a1, q, e, ans]
  rw [← Int.natCast_add, ← Int.natCast_emod]
  omega
theorem x_snd {i : Int} (h1 : 1 ≤ t) (h2 : t < 1000) (hi : ¬ (0 ≤ i ∧ i < (Ln p r t : Nat))) : f_is_sounding [.val (pl p r t), .val (.int i)] = .exc "NoSuch" [.val (pl p r t), .val (.int i)] := by
  have cl := c_len (p := p) (r := r) h1 h2
  have sr : ∀ ρ, sRaise "NoSuch" ρ = .exc "NoSuch" ρ := fun _ => rfl
  by_cases h0 : 0 ≤ i
  · have h3 : ¬ (i < (Ln p r t : Nat)) := fun q => hi ⟨h0, q⟩
    simp [f_is_sounding, fnM, m_is_sounding, List.replicate, cl, h0, h3, sr]
  · simp [f_is_sounding, fnM, m_is_sounding, List.replicate, cl, h0, sr]
theorem call_exc2 {f : Fn} {a b : PyData} {x : String} {ρ ρ' : Rho} (h : f [.val a, .val b] = .exc x ρ') : callD f 2 [.v a, .v b] ρ = .exc x ρ := by
  simp [callD, once, toArgs, h, VL.callEnd, back]
theorem c_snd {i : Nat} (h1 : 1 ≤ t) (h2 : t < 1000) (hp : 1 ≤ p) (hi : i < Ln p r t) (ρ : Rho) : callD f_is_sounding 2 [.v (pl p r t), .v (.int i)] ρ = .ok (.v (.bool (decide (i % (p + r) < p)))) ρ := callV2 (s_snd h1 h2 hp hi)
theorem s_lsnd {i : Nat} (h1 : 1 ≤ t) (h2 : t < 1000) (hp : 1 ≤ p) (hi : i < Ln p r t) : ans (f__law_sounding [.val (pl p r t), .val (.int i)]) = some (.bool (decide (i % (p + r) < p))) := by
  have cs := c_snd (p := p) (r := r) h1 h2 hp hi
  simp [f__law_sounding, fnM, m__law_sounding, List.replicate, sTry, cs, ans]
theorem x_lsnd {i : Int} (h1 : 1 ≤ t) (h2 : t < 1000) (hi : ¬ (0 ≤ i ∧ i < (Ln p r t : Nat))) : ans (f__law_sounding [.val (pl p r t), .val (.int i)]) = some .none := by
  have cs := fun ρ => call_exc2 (ρ := ρ) (x_snd (p := p) (r := r) h1 h2 hi)
  have hx : hx_NoSuch "NoSuch" = some true := by decide
  simp [f__law_sounding, fnM, m__law_sounding, List.replicate, sTry, cs, ans, hx]
/-! the row -/
theorem s_row (h1 : 1 ≤ t) (h2 : t < 1000) (hp : 1 ≤ p) (hl : Ln p r t < 900) : ans (f_row_of [.val (pl p r t)]) = some (.tuple ((rowN p r t).map .int)) := by
  have l := lc_map (own := [1]) (t := gN 1) (mt := mYes) (me := mFrz (mOpN gInt (mCons (mCall f_is_sounding 2 (mCons (mVar 0) (mCons (mVar 1) (mNil)))) (mNil)))) (ρ := [.val (pl p r t), .no]) (fun i : Nat => PyData.int (i : Int)) (fun i => some (.int (if i % (p + r) < p then 1 else 0))) (List.range (Ln p r t)) fun i hi => by
    have cs := c_snd (p := p) (r := r) h1 h2 hp (List.mem_range.mp hi)
    simp [lcStep, wipeR, unwipe, cs]
  rw [filterMap_all] at l
  have er : itR1 [.int (Ln p r t : Nat)] = some ((List.range (Ln p r t)).map fun i : Nat => PyData.int (i : Int)) := by
    rw [r1_small (by omega) (by omega), rangeD0, show ((Ln p r t : Nat) : Int).toNat = Ln p r t by omega]
  have len : Ln p r t ≤ 16777216 := by omega
  have cl := c_len (p := p) (r := r) h1 h2
  simp [f_row_of, fnM, m_row_of, List.replicate, cl, er, len, l, ans, rowN, List.map_map]
  rfl
theorem c_row (h1 : 1 ≤ t) (h2 : t < 1000) (hp : 1 ≤ p) (hl : Ln p r t < 900) (ρ : Rho) : callD f_row_of 1 [.v (pl p r t)] ρ = .ok (.v (.tuple ((rowN p r t).map .int))) ρ := callV1 (s_row h1 h2 hp hl)
theorem row_len : (rowN p r t).length = Ln p r t := by unfold rowN Ln; simp
end
end K20

set_option Elab.async false
set_option linter.all false
set_option autoImplicit false
set_option maxRecDepth 100000
set_option maxHeartbeats 1000000
namespace K20
open PySem PySem.Spec PyProof.Rows L2 VL
theorem s_isint (v lo hi : Int) : ans (f_is_integer [.val (.int v), .val (.int lo), .val (.int hi)]) = some (.bool (decide (lo ≤ v) && decide (v ≤ hi))) := by
  have z1 : gIsi "int" (.int v) = some (.bool true) := rfl
  have z2 : gIsi "bool" (.int v) = some (.bool false) := rfl
  by_cases h : lo ≤ v <;> simp [f_is_integer, fnM, m_is_integer, List.replicate, z1, z2, h, ans]
theorem c_isint (v lo hi : Int) (ρ : Rho) : callD f_is_integer 3 [.v (.int v), .v (.int lo), .v (.int hi)] ρ = .ok (.v (.bool (decide (lo ≤ v) && decide (v ≤ hi)))) ρ := callV3 (s_isint v lo hi)
theorem a3_0 {x y z : PyData} : atI [x, y, z] 0 = some x := rfl
theorem a3_1 {x y z : PyData} : atI [x, y, z] 1 = some y := rfl
theorem a3_2 {x y z : PyData} : atI [x, y, z] 2 = some z := rfl
section
variable {p r t c : Nat} {s : Int}
theorem s_isplan (h0 : 1 ≤ p) (h1 : p ≤ 1000) (h2 : r ≤ 1000) (h3 : 2 ≤ t) (h4 : t ≤ 9) : ans (f_is_plan [.val (pl p r t)]) = some (.bool true) := by
  have z : gIsi "tuple" (pl p r t) = some (.bool true) := rfl
  have d1 : (1 : Int) ≤ p := by omega
  have d2 : (p : Int) ≤ 1000 := by omega
  have d3 : (0 : Int) ≤ r := by omega
  have d4 : (r : Int) ≤ 1000 := by omega
  have d5 : (2 : Int) ≤ t := by omega
  have d6 : (t : Int) ≤ 9 := by omega
  unfold pl at z ⊢
  simp only [f_is_plan, fnM, m_is_plan, List.replicate, List.length_cons, List.length_nil, List.append_nil, List.cons_append, List.nil_append]
  simp [-Int.natCast_pos, z, c_isint, a3_0, a3_1, a3_2, d1, d2, d3, d4, d5, d6, ans]
theorem s_notplan (a b : Int) : ans (f_is_plan [.val (.tuple [.int 0, .int a, .int b])]) = some (.bool false) := by
  have z : gIsi "tuple" (.tuple [.int 0, .int a, .int b]) = some (.bool true) := rfl
  simp [f_is_plan, fnM, m_is_plan, List.replicate, z, c_isint, a3_0, ans]
theorem s_same (a b : Bool) : ans (f__law_same [.val (.bool a), .val (.bool b)]) = some (.bool (a == b)) := by
  cases a <;> cases b <;> rfl
theorem c_same (a b : Bool) (ρ : Rho) : callD f__law_same 2 [.v (.bool a), .v (.bool b)] ρ = .ok (.v (.bool (a == b))) ρ := callV2 (s_same a b)
@[simp] theorem eq_ti (a b : List Int) : gEq (.tuple (a.map .int)) (.tuple (b.map .int)) = some (.bool (decide (a = b))) := by
  unfold gEq
  rw [shaped_ti, shaped_ti]
  show some (PyData.bool (PyData.eqvAll (a.map .int) (b.map .int))) = _
  rw [eqv_ints]
@[simp] theorem ne_ti (a b : List Int) : gNe (.tuple (a.map .int)) (.tuple (b.map .int)) = some (.bool (!decide (a = b))) := by
  unfold gNe
  rw [shaped_ti, shaped_ti]
  show some (PyData.bool (!PyData.eqvAll (a.map .int) (b.map .int))) = _
  rw [eqv_ints]
@[simp] theorem ne_li (a b : List Int) : gNe (.list (a.map .int)) (.list (b.map .int)) = some (.bool (!decide (a = b))) := by
  unfold gNe
  rw [shaped_li, shaped_li]
  show some (PyData.bool (!PyData.eqvAll (a.map .int) (b.map .int))) = _
  rw [eqv_ints]
theorem fdiv_nat (i n : Nat) : (i : Int).fdiv n = ((i / n : Nat) : Int) := by
  rw [Int.fdiv_eq_ediv_of_nonneg _ (by omega)]
  simp
/-! plan_of -/
abbrev poB : MS := sSeq (sAsg (mOp2 gSub (mVar 2) (mOp2 gMul (mVar 3) (mVar 1))) (gN 4))
  (sIf (mAndT (mB (mOp2 gEq (mOp2 gMod (mVar 4) (mOp2 gSub (mVar 1) (mConst (.int 1)))) (mConst (.int 0)))) (mB (mOp2 gEq (mCall f_row_of 1 (mCons (mTup (mCons (mVar 3) (mCons (mOp2 gFdiv (mVar 4) (mOp2 gSub (mVar 1) (mConst (.int 1)))) (mCons (mVar 1) (mNil))))) (mNil))) (mOpN gTuple (mCons (mVar 0) (mNil)))))) (sRet (mTup (mCons (mVar 3) (mCons (mOp2 gFdiv (mVar 4) (mOp2 gSub (mVar 1) (mConst (.int 1)))) (mCons (mVar 1) (mNil)))))) (sNext))
def poD (t : Nat) : Option (Nat × Nat) → PyData
  | some (a, b) => pl a b t
  | none => .none
theorem po_body {row : List Int} {k : Nat} {s4 : SV} (h4 : sNo s4) (ht : 2 ≤ t) (ht2 : t < 900) (hn : row.length < 900) (hk : (k + 1) * t ≤ row.length) :
    (planK row t k = none ∧ ∃ d, poB [.val (.tuple (row.map .int)), .val (.int t), .val (.int row.length), .val (.int ((k + 1 : Nat) : Int)), s4] = .nx [.val (.tuple (row.map .int)), .val (.int t), .val (.int row.length), .val (.int ((k + 1 : Nat) : Int)), .val d])
    ∨ ∃ q ρ, planK row t k = some q ∧ poB [.val (.tuple (row.map .int)), .val (.int t), .val (.int row.length), .val (.int ((k + 1 : Nat) : Int)), s4] = .rt (poD t (some q)) ρ := by
  obtain ⟨u, rfl⟩ : ∃ u, t = u + 1 := ⟨t - 1, by omega⟩
  have hu : 1 ≤ u := by omega
  obtain ⟨L, hL⟩ : ∃ L, L = row.length - (k + 1) * (u + 1) := ⟨_, rfl⟩
  have eL : (row.length : Int) - ((k + 1 : Nat) : Int) * ((u + 1 : Nat) : Int) = (L : Nat) := by
    rw [← Int.natCast_mul]
    omega
  have eu : ((u + 1 : Nat) : Int) - 1 = u := by omega
  have mo : mulOk ((k + 1 : Nat) : Int) ((u + 1 : Nat) : Int) = true := mO (by omega) (by omega)
  have hu0 : ¬ u = 0 := by omega
  have hu2 : u < 1073741824 := by omega
  have e1 : u + 1 - 1 = u := by omega
  have len : Ln (k + 1) (L / u) (u + 1) < 900 := by
    unfold Ln
    rw [e1]
    have := Nat.div_mul_le_self L u
    omega
  have cr := c_row (p := k + 1) (r := L / u) (t := u + 1) (by omega) (by omega) (by omega) len
  unfold pl at cr
  have er := eq_ti (rowN (k + 1) (L / u) (u + 1)) row
  have fm := fmod_nat L u
  have fd := fdiv_nat L u
  have ep : planK row (u + 1) k = if L % u = 0 ∧ rowN (k + 1) (L / u) (u + 1) = row then some (k + 1, L / u) else none := by
    unfold planK
    rw [e1, ← hL]
  generalize k + 1 = j at *
  generalize hT : u + 1 = T at *
  rw [ep]
  clear ep len
  generalize L / u = V at *
  generalize L % u = M at *
  by_cases q1 : M = 0
  · by_cases q2 : rowN j V T = row
    · refine .inr ⟨_, [.val (.tuple (row.map .int)), .val (.int T), .val (.int row.length), .val (.int (j : Int)), .val (.int L)], if_pos ⟨q1, q2⟩, ?_⟩
      rcases h4 with rfl | ⟨_, rfl⟩ <;> simp [poB, eL, eu, mo, hu0, hu2, fm, fd, q1, q2, cr, er, poD, pl]
    · refine .inl ⟨if_neg fun z => q2 z.2, .int L, ?_⟩
      rcases h4 with rfl | ⟨_, rfl⟩ <;> simp [poB, eL, eu, mo, hu0, hu2, fm, fd, q1, q2, cr, er]
  · refine .inl ⟨if_neg fun z => q1 z.1, .int L, ?_⟩
    rcases h4 with rfl | ⟨_, rfl⟩ <;> simp [poB, eL, eu, mo, hu0, hu2, fm, fd, q1]
theorem po_loop {row : List Int} (ht : 2 ≤ t) (ht2 : t < 900) (hn : row.length < 900) : ∀ (l : List Nat) (s3 s4 : SV), sNo s3 → sNo s4 → (∀ k ∈ l, (k + 1) * t ≤ row.length) →
    (l.findSome? (planK row t) = none ∧ ∃ ρ, sLoop (gN 3) poB (l.map fun k : Nat => PyData.int ((k + 1 : Nat) : Int)) [.val (.tuple (row.map .int)), .val (.int t), .val (.int row.length), s3, s4] = .nx ρ)
    ∨ ∃ q ρ, l.findSome? (planK row t) = some q ∧ sLoop (gN 3) poB (l.map fun k : Nat => PyData.int ((k + 1 : Nat) : Int)) [.val (.tuple (row.map .int)), .val (.int t), .val (.int row.length), s3, s4] = .rt (poD t (some q)) ρ
  | [], s3, s4, _, _, _ => .inl ⟨rfl, _, rfl⟩
  | k :: l, s3, s4, h3, h4, hk => by
    rw [List.map_cons, List.findSome?_cons]
    unfold sLoop
    have go : gN 3 (.int ((k + 1 : Nat) : Int)) [.val (.tuple (row.map .int)), .val (.int t), .val (.int row.length), s3, s4] = some [.val (.tuple (row.map .int)), .val (.int t), .val (.int row.length), .val (.int ((k + 1 : Nat) : Int)), s4] := by
      rcases h3 with rfl | ⟨_, rfl⟩ <;> rfl
    rw [go]
    dsimp only
    rcases po_body (s4 := s4) h4 ht ht2 hn (hk k List.mem_cons_self) with ⟨e1, d, e2⟩ | ⟨q, ρ, e1, e2⟩
    · rw [e1, e2]
      exact po_loop ht ht2 hn l _ _ sNo_val sNo_val fun x hx => hk x (List.mem_cons_of_mem _ hx)
    · rw [e1, e2]
      exact .inr ⟨q, ρ, rfl, rfl⟩
theorem s_planof {row : List Int} (ht : 2 ≤ t) (ht2 : t < 900) (hn : row.length < 900) : ans (f_plan_of [.val (.tuple (row.map .int)), .val (.int t)]) = some (poD t (planF row t)) := by
  have fd := fdiv_nat row.length t
  have k1 := Nat.div_le_self row.length t
  have k2 := Nat.div_mul_le_self row.length t
  have ep : planF row t = (List.range (row.length / t)).findSome? (planK row t) := rfl
  generalize row.length / t = K at *
  have er : itR2 [.int 1, .int ((K : Int) + 1)] = some ((List.range K).map fun i : Nat => PyData.int ((i + 1 : Nat) : Int)) := by
    rw [r2_small (by omega) (by omega) (by omega) (by omega), rangeD1, show ((K : Int) + 1 - 1).toNat = K by omega]
  have ht0 : ¬ t = 0 := by omega
  have ht3 : t < 1073741824 := by omega
  have pre : ∀ r : SRes, sLoop (gN 3) poB ((List.range K).map fun k : Nat => PyData.int ((k + 1 : Nat) : Int)) [.val (.tuple (row.map .int)), .val (.int t), .val (.int row.length), .no, .no] = r → f_plan_of [.val (.tuple (row.map .int)), .val (.int t)] = (match r with | .nx ρ' => sRet (mConst .none) ρ' | r => r) := fun r h => by
    subst h
    simp only [f_plan_of, fnM, m_plan_of, List.length_cons, List.length_nil, List.replicate, List.cons_append, List.nil_append]
    simp [-Int.natCast_add, ht0, ht3, fd, er] <;> rfl
  rw [ep]
  rcases po_loop (row := row) ht ht2 hn (List.range K) .no .no (.inl rfl) (.inl rfl) (fun k hk => by
      have h1 := List.mem_range.mp hk
      have h3 : (k + 1) * t ≤ K * t := Nat.mul_le_mul_right t h1
      omega) with ⟨e1, ρ, e2⟩ | ⟨q, ρ, e1, e2⟩
  · rw [pre _ e2, e1]
    rfl
  · rw [pre _ e2, e1]
    rfl
theorem c_planof {row : List Int} (ht : 2 ≤ t) (ht2 : t < 900) (hn : row.length < 900) (ρ : Rho) : callD f_plan_of 2 [.v (.tuple (row.map .int)), .v (.int t)] ρ = .ok (.v (poD t (planF row t))) ρ := callV2 (s_planof ht ht2 hn)
end
end K20

set_option Elab.async false
set_option linter.all false
set_option autoImplicit false
set_option maxRecDepth 100000
set_option maxHeartbeats 1000000
namespace K20
open PySem PySem.Spec PyProof.Rows L2 VL
section
variable {p r t c : Nat} {s : Int}
/-! plans_filling -/
def fillK (W t k : Nat) : Bool := (W - (k + 1) * t) % (t - 1) = 0
def fillP (W t k : Nat) : PyData := pl (k + 1) ((W - (k + 1) * t) / (t - 1)) t
def fillL (W t : Nat) : List Nat := (List.range (W / t)).filter (fillK W t)
abbrev pfB : MS := (sSeq (sAsg (mOp2 gSub (mVar 3) (mOp2 gMul (mVar 5) (mVar 0))) (gN 6))
  (sIf (mB (mOp2 gEq (mOp2 gMod (mVar 6) (mOp2 gSub (mVar 0) (mConst (.int 1)))) (mConst (.int 0)))) (sExpr (mMeth "list" 4 gAppend (mCons (mTup (mCons (mVar 5) (mCons (mOp2 gFdiv (mVar 6) (mOp2 gSub (mVar 0) (mConst (.int 1)))) (mCons (mVar 0) (mNil))))) (mNil)))) (sNext)))
theorem pf_body {W k : Nat} {acc : List PyData} {s1 s2 s6 : SV} (h6 : sNo s6) (ht : 2 ≤ t) (ht2 : t < 900) (hn : W < 900) (hk : (k + 1) * t ≤ W) (ha : acc.length < 10000) :
    ∃ d, pfB [.val (.int t), s1, s2, .val (.int W), .lst (.li acc), .val (.int ((k + 1 : Nat) : Int)), s6] = .nx [.val (.int t), s1, s2, .val (.int W), .lst (.li (acc ++ if fillK W t k = true then [fillP W t k] else [])), .val (.int ((k + 1 : Nat) : Int)), .val d] := by
  obtain ⟨u, rfl⟩ : ∃ u, t = u + 1 := ⟨t - 1, by omega⟩
  have hu : 1 ≤ u := by omega
  obtain ⟨L, hL⟩ : ∃ L, L = W - (k + 1) * (u + 1) := ⟨_, rfl⟩
  have eL : (W : Int) - ((k + 1 : Nat) : Int) * ((u + 1 : Nat) : Int) = (L : Nat) := by
    rw [← Int.natCast_mul]
    omega
  have eu : ((u + 1 : Nat) : Int) - 1 = u := by omega
  have mo : mulOk ((k + 1 : Nat) : Int) ((u + 1 : Nat) : Int) = true := mO (by omega) (by omega)
  have hu0 : ¬ u = 0 := by omega
  have hu2 : u < 1073741824 := by omega
  have e1 : u + 1 - 1 = u := by omega
  have fm := fmod_nat L u
  have fd := fdiv_nat L u
  have ek : fillK W (u + 1) k = decide (L % u = 0) := by unfold fillK; rw [e1, ← hL]
  have ep : fillP W (u + 1) k = pl (k + 1) (L / u) (u + 1) := by unfold fillP; rw [e1, ← hL]
  have al : acc.length < 16777216 := by omega
  rw [ek, ep]
  generalize k + 1 = j at *
  generalize u + 1 = T at *
  generalize L / u = V at *
  generalize L % u = M at *
  refine ⟨.int L, ?_⟩
  by_cases q : M = 0
  · rcases h6 with rfl | ⟨_, rfl⟩ <;> simp [pfB, eL, eu, mo, hu0, hu2, fm, fd, q, al, pl]
  · rcases h6 with rfl | ⟨_, rfl⟩ <;> simp [pfB, eL, eu, mo, hu0, hu2, fm, fd, q, al, pl]
theorem pf_loop {W : Nat} (ht : 2 ≤ t) (ht2 : t < 900) (hn : W < 900) {s1 s2 : SV} : ∀ (l : List Nat) (acc : List PyData) (s5 s6 : SV), sNo s5 → sNo s6 → (∀ k ∈ l, (k + 1) * t ≤ W) → acc.length + l.length < 10000 →
    ∃ u5 u6, sLoop (gN 5) pfB (l.map fun k : Nat => PyData.int ((k + 1 : Nat) : Int)) [.val (.int t), s1, s2, .val (.int W), .lst (.li acc), s5, s6] = .nx [.val (.int t), s1, s2, .val (.int W), .lst (.li (acc ++ (l.filter (fillK W t)).map (fillP W t))), u5, u6]
  | [], acc, s5, s6, _, _, _, _ => ⟨s5, s6, by simp [sLoop]⟩
  | k :: l, acc, s5, s6, h5, h6, hk, hl => by
    rw [List.length_cons] at hl
    obtain ⟨d, e⟩ := pf_body (s1 := s1) (s2 := s2) (acc := acc) h6 ht ht2 hn (hk k List.mem_cons_self) (by omega)
    obtain ⟨u5, u6, e2⟩ := pf_loop ht ht2 hn (s1 := s1) (s2 := s2) l (acc ++ if fillK W t k = true then [fillP W t k] else []) (.val (.int ((k + 1 : Nat) : Int))) (.val d) sNo_val sNo_val (fun x hx => hk x (List.mem_cons_of_mem _ hx)) (by split <;> simp <;> omega)
    refine ⟨u5, u6, ?_⟩
    rw [List.map_cons]
    unfold sLoop
    have go : gN 5 (.int ((k + 1 : Nat) : Int)) [.val (.int t), s1, s2, .val (.int W), .lst (.li acc), s5, s6] = some [.val (.int t), s1, s2, .val (.int W), .lst (.li acc), .val (.int ((k + 1 : Nat) : Int)), s6] := by
      rcases h5 with rfl | ⟨_, rfl⟩ <;> rfl
    rw [go]
    dsimp only
    rw [e]
    dsimp only
    rw [e2]
    by_cases q : fillK W t k = true
    · simp [q]
    · simp [q]
theorem s_fill {cy : Nat} (ht : 2 ≤ t) (ht2 : t < 900) (hc : c < 900) (hcy : cy < 900) (hn : c * cy + 1 < 900) : ans (f_plans_filling [.val (.int t), .val (.int c), .val (.int cy)]) = some (.list ((fillL (c * cy + 1) t).map (fillP (c * cy + 1) t))) := by
  have eW : (c : Int) * cy + 1 = ((c * cy + 1 : Nat) : Int) := by push_cast; rfl
  have mo : mulOk (c : Int) cy = true := mO (by omega) (by omega)
  have el : fillL (c * cy + 1) t = (List.range ((c * cy + 1) / t)).filter (fillK (c * cy + 1) t) := rfl
  rw [el]
  generalize c * cy + 1 = W at *
  have fd := fdiv_nat W t
  have k1 := Nat.div_le_self W t
  have k2 := Nat.div_mul_le_self W t
  generalize W / t = K at *
  have er : itR2 [.int 1, .int ((K : Int) + 1)] = some ((List.range K).map fun i : Nat => PyData.int ((i + 1 : Nat) : Int)) := by
    rw [r2_small (by omega) (by omega) (by omega) (by omega), rangeD1, show ((K : Int) + 1 - 1).toNat = K by omega]
  have ht0 : ¬ t = 0 := by omega
  have ht3 : t < 1073741824 := by omega
  obtain ⟨u5, u6, e⟩ := pf_loop (W := W) (s1 := .val (.int c)) (s2 := .val (.int cy)) ht ht2 hn (List.range K) [] .no .no (.inl rfl) (.inl rfl) (fun k hk => by
      have h1 := List.mem_range.mp hk
      have h3 : (k + 1) * t ≤ K * t := Nat.mul_le_mul_right t h1
      omega) (by simp; omega)
  unfold pfB at e
  simp only [f_plans_filling, fnM, m_plans_filling, List.length_cons, List.length_nil, List.replicate, List.cons_append, List.nil_append]
  simp [-Int.natCast_add, mo, eW, ht0, ht3, fd, er, e, ans]
theorem c_fill {cy : Nat} (ht : 2 ≤ t) (ht2 : t < 900) (hc : c < 900) (hcy : cy < 900) (hn : c * cy + 1 < 900) (ρ : Rho) : callD f_plans_filling 3 [.v (.int t), .v (.int c), .v (.int cy)] ρ = .ok (.v (.list ((fillL (c * cy + 1) t).map (fillP (c * cy + 1) t)))) ρ := callV3 (s_fill ht ht2 hc hcy hn)
theorem fillP_len {W k : Nat} (ht : 2 ≤ t) (hk : fillK W t k = true) (h : (k + 1) * t ≤ W) : Ln (k + 1) ((W - (k + 1) * t) / (t - 1)) t = W := by
  unfold Ln
  have e : (W - (k + 1) * t) % (t - 1) = 0 := of_decide_eq_true hk
  have := Nat.div_mul_cancel (Nat.dvd_of_mod_eq_zero e)
  omega
/-! nested -/
def repG (g : Nat) : List Int := List.replicate g 0
theorem rep1 (n : Nat) (x : PyData) : (List.replicate n [x]).flatten = List.replicate n x := by
  induction n with
  | zero => rfl
  | succ n ih => rw [List.replicate_succ, List.flatten_cons, ih]; rfl
theorem z_nested {g : Nat} (h1 : 1 ≤ t) (h2 : t < 1000) (hp : 1 ≤ p) (hl : Ln p r t < 900) (hg : g < 900) : ans (f_nested [.val (pl p r t), .val (.int g), .val (.int 3)]) = some (.tuple ((rowN p r t ++ repG g ++ rowN p r t ++ repG g ++ rowN p r t).map .int)) := by
  have cr := c_row (p := p) (r := r) h1 h2 hp hl
  have er : itR1 [.int 3] = some [.int 0, .int 1, .int 2] := by rfl
  have ro : repOk [PyData.int 0] (g : Int) = true := by
    unfold repOk
    rw [Bool.and_eq_true, decide_eq_true_eq, decide_eq_true_eq]
    constructor
    · omega
    · simp; omega
  have rl : (rowN p r t).length = Ln p r t := row_len
  have em : (rowN p r t).map PyData.int = (rowN p r t).map PyData.int := rfl
  have eg : (repG g).map PyData.int = List.replicate g (PyData.int 0) := by simp [repG]
  have l1 : Ln p r t + g ≤ 16777216 := by omega
  have l2 : Ln p r t + (g + Ln p r t) ≤ 16777216 := by omega
  have l3 : Ln p r t + (g + (Ln p r t + g)) ≤ 16777216 := by omega
  have l4 : Ln p r t + (g + (Ln p r t + (g + Ln p r t))) ≤ 16777216 := by omega
  have l0 : Ln p r t ≤ 16777216 := by omega
  simp [f_nested, fnM, m_nested, List.replicate, cr, er, sLoop, ro, rep1, rl, l0, l1, l2, l3, l4, Nat.add_assoc, ans, eg]
theorem s_nestlen {g : Nat} (h1 : 1 ≤ t) (h2 : t < 1000) : ans (f_nested_length [.val (pl p r t), .val (.int g), .val (.int 3)]) = some (.int ((Ln p r t : Int) * 3 + g * 2)) := by
  have cl := c_len (p := p) (r := r) h1 h2
  have m1 : mulOk (Ln p r t : Int) 3 = true := mO (by omega) (by omega)
  have m2 : mulOk (g : Int) 2 = true := mO (by omega) (by omega)
  simp [f_nested_length, fnM, m_nested_length, List.replicate, cl, m1, m2, ans]
/-! shrinking -/
abbrev shB : MS := (sSeq (sExpr (mMeth "list" 4 gAppend (mCons (mVar 5) (mNil))))
  (sAug 5 gSub (mVar 1)))
theorem sh_while {st : Nat} {s0 s2 s3 s6 : SV} (hs : 1 ≤ st) : ∀ (n N : Nat) (here : Int) (acc : List Int), n < N → here ≤ n → acc.length + n < 10000 →
    ∃ e : Int, sWhile (mB (mOp2 gGt (mVar 5) (mConst (.int 0)))) shB N [s0, .val (.int st), s2, s3, .lst (.li (acc.map .int)), .val (.int here), s6] = .nx [s0, .val (.int st), s2, s3, .lst (.li ((acc ++ shrL n here st).map .int)), .val (.int e), s6]
  | 0, N, here, acc, hN, hh, _ => by
    obtain ⟨M, rfl⟩ : ∃ M, N = M + 1 := ⟨N - 1, by omega⟩
    refine ⟨here, ?_⟩
    have : ¬ (0 < here) := by omega
    unfold sWhile
    simp [this, shrL]
  | n + 1, N, here, acc, hN, hh, ha => by
    obtain ⟨M, rfl⟩ : ∃ M, N = M + 1 := ⟨N - 1, by omega⟩
    by_cases q : 0 < here
    · obtain ⟨e, z⟩ := sh_while (s0 := s0) (s2 := s2) (s3 := s3) (s6 := s6) hs n M (here - st) (acc ++ [here]) (by omega) (by omega) (by simp; omega)
      refine ⟨e, ?_⟩
      unfold sWhile
      have al : acc.length < 16777216 := by omega
      have st1 : shB [s0, .val (.int st), s2, s3, .lst (.li (acc.map .int)), .val (.int here), s6] = .nx [s0, .val (.int st), s2, s3, .lst (.li ((acc ++ [here]).map .int)), .val (.int (here - st)), s6] := by
        simp [shB, al, sAug]
      have t1 : mB (mOp2 gGt (mVar 5) (mConst (.int 0))) [s0, .val (.int st), s2, s3, .lst (.li (acc.map .int)), .val (.int here), s6] = .ok true [s0, .val (.int st), s2, s3, .lst (.li (acc.map .int)), .val (.int here), s6] := by simp [q]
      rw [t1]
      dsimp only
      rw [st1]
      dsimp only
      rw [z]
      simp [shrL, q]
    · refine ⟨here, ?_⟩
      unfold sWhile
      simp [q, shrL]
end
end K20

set_option Elab.async false
set_option linter.all false
set_option autoImplicit false
set_option maxRecDepth 100000
set_option maxHeartbeats 1000000
namespace K20
open PySem PySem.Spec PyProof.Rows L2 VL
theorem intsD_map : ∀ l : List Int, intsD (l.map .int) = some l
  | [] => rfl
  | x :: r => by
    rw [List.map_cons]
    unfold intsD
    rw [intsD_map r]
    rfl
@[simp] theorem gSum_l (l : List Int) : gSum [.list (l.map .int)] = some (.int l.sum) := by
  show (intsD (l.map .int)).map _ = _
  rw [intsD_map]
  rfl
@[simp] theorem gSum_t (l : List Int) : gSum [.tuple (l.map .int)] = some (.int l.sum) := by
  show (intsD (l.map .int)).map _ = _
  rw [intsD_map]
  rfl
def wholeI (l : List Int) (r : Nat) : Int := l.sum + (r : Int) * ((l.length : Int) - 1)
theorem shr_len : ∀ (n : Nat) (here st : Int), (shrL n here st).length ≤ n
  | 0, _, _ => Nat.le_refl _
  | n + 1, here, st => by
    unfold shrL
    split
    · rw [List.length_cons]; have := shr_len n (here - st) st; omega
    · exact Nat.zero_le _
theorem s_shr {p st r c : Nat} (hp : p < 10) (hs : 1 ≤ st) (hr : r < 900) (hc : 1 ≤ c) : ans (f_shrinking [.val (.int p), .val (.int st), .val (.int r), .val (.int c)]) = some (.tuple [.tuple ((shrL 10 p st).map .int), .int ((1 - wholeI (shrL 10 p st) r).fmod c)]) := by
  obtain ⟨e, z⟩ := sh_while (st := st) (s0 := .val (.int p)) (s2 := .val (.int r)) (s3 := .val (.int c)) (s6 := .no) hs 10 fuel_shrinking p [] (by decide) (by omega) (by simp)
  have hc' : ¬ c = 0 := by omega
  have len := shr_len 10 (p : Int) (st : Int)
  generalize shrL 10 (p : Int) (st : Int) = l at *
  have mo : mulOk (r : Int) ((l.length : Int) - 1) = true := mO (by omega) (by omega)
  unfold shB at z
  simp only [List.nil_append, List.map_nil] at z
  simp [f_shrinking, fnM, m_shrinking, List.replicate, z, mo, hc', ans, wholeI]
theorem c_shr {p st r c : Nat} (hp : p < 10) (hs : 1 ≤ st) (hr : r < 900) (hc : 1 ≤ c) (ρ : Rho) : callD f_shrinking 4 [.v (.int p), .v (.int st), .v (.int r), .v (.int c)] ρ = .ok (.v (.tuple [.tuple ((shrL 10 p st).map .int), .int ((1 - wholeI (shrL 10 p st) r).fmod c)])) ρ := callV4 (s_shr hp hs hr hc)
/-! ### the law's part on plans -/
def p_law_planned_1 : MS := sAsg (mOp2 gAdd (mConst (.int 1)) (mCall f__law_draw 2 (mCons (mVar 0) (mCons (mConst (.int 9)) (mNil))))) (gN 1)
def p_law_planned_2 : MS := sAsg (mCall f__law_draw 2 (mCons (mVar 0) (mCons (mConst (.int 6)) (mNil)))) (gN 2)
def p_law_planned_3 : MS := sAsg (mOp2 gAdd (mConst (.int 2)) (mCall f__law_draw 2 (mCons (mVar 0) (mCons (mConst (.int 4)) (mNil))))) (gN 3)
def p_law_planned_4 : MS := sAsg (mTup (mCons (mVar 1) (mCons (mVar 2) (mCons (mVar 3) (mNil))))) (gN 4)
def p_law_planned_5 : MS := sAsg (mOp2 gAdd (mConst (.int 1)) (mCall f__law_draw 2 (mCons (mVar 0) (mCons (mConst (.int 20)) (mNil))))) (gN 5)
def p_law_planned_6 : MS := sAsg (mCall f__law_draw 2 (mCons (mVar 0) (mCons (mVar 5) (mNil)))) (gN 6)
def p_law_planned_7 : MS := sAsg (mOp2 gAdd (mOp2 gMul (mOp2 gAdd (mOp2 gMul (mTup (mCons (mConst (.int 1)) (mNil))) (mVar 1)) (mOp2 gMul (mTup (mCons (mConst (.int 0)) (mNil))) (mVar 2))) (mOp2 gSub (mVar 3) (mConst (.int 1)))) (mOp2 gMul (mTup (mCons (mConst (.int 1)) (mNil))) (mVar 1))) (gN 7)
def p_law_planned_8 : MS := sIf (mOrT (mNotT (mTru (mCall f__law_same 2 (mCons (mCall f_is_plan 1 (mCons (mVar 4) (mNil))) (mCons (mConst (.bool true)) (mNil)))))) (mOrT (mNotT (mTru (mCall f__law_same 2 (mCons (mCall f_is_plan 1 (mCons (mTup (mCons (mConst (.int 0)) (mCons (mVar 2) (mCons (mVar 3) (mNil))))) (mNil))) (mCons (mConst (.bool false)) (mNil)))))) (mOrT (mB (mOp2 gNe (mCall f_length_of 1 (mCons (mVar 4) (mNil))) (mOpN gLen (mCons (mVar 7) (mNil))))) (mB (mOp2 gNe (mCall f_row_of 1 (mCons (mVar 4) (mNil))) (mVar 7)))))) (sRet (mConst (.bool false))) (sNext)
def p_law_planned_9 : MS := sIf (mOrT (mB (mOp2 gNe (mCall f_end_from 3 (mCons (mVar 4) (mCons (mVar 5) (mCons (mVar 6) (mNil))))) (mOp2 gMod (mOpN gInt (mCons (mOp2 gSub (mOp2 gAdd (mVar 6) (mOpN gLen (mCons (mVar 7) (mNil)))) (mConst (.int 1))) (mNil))) (mVar 5)))) (mOrT (mB (mOp2 gNe (mCall f_end_from 3 (mCons (mVar 4) (mCons (mVar 5) (mCons (mCall f_start_for 2 (mCons (mVar 4) (mCons (mVar 5) (mNil)))) (mNil))))) (mConst (.int 0)))) (mB (mInR true (mCall f_start_for 2 (mCons (mVar 4) (mCons (mVar 5) (mNil)))) (mCons (mVar 5) (mNil)))))) (sRet (mConst (.bool false))) (sNext)
def p_law_planned_10 : MS := sIf (mOrT (mB (mOp2 gNe (mNew (mLc [20] (mItN itR1 (mCons (mOpN gLen (mCons (mVar 7) (mNil))) (mNil))) (gN 20) (mYes) (mCall f__law_sounding 2 (mCons (mVar 4) (mCons (mVar 20) (mNil)))))) (mNew (mLc [21] (mIt itA (mVar 7)) (gN 21) (mYes) (mOp2 gEq (mVar 21) (mConst (.int 1))))))) (mOrT (mB (mOp2 gIsNot (mCall f__law_sounding 2 (mCons (mVar 4) (mCons (mOpN gLen (mCons (mVar 7) (mNil))) (mNil)))) (mConst .none))) (mB (mOp2 gIsNot (mCall f__law_sounding 2 (mCons (mVar 4) (mCons (mOp2 gSub (mConst (.int 0)) (mConst (.int 1))) (mNil)))) (mConst .none))))) (sRet (mConst (.bool false))) (sNext)
def p_law_planned_11 : MS := sIf (mB (mOp2 gNe (mCall f_strokes_at 3 (mCons (mVar 4) (mCons (mVar 5) (mCons (mVar 6) (mNil))))) (mOpN gTuple (mCons (mNew (mLc [22] (mItN itR1 (mCons (mVar 3) (mNil))) (gN 22) (mYes) (mOp2 gMod (mOpN gInt (mCons (mOp2 gAdd (mVar 6) (mOp2 gMul (mVar 22) (mOp2 gAdd (mVar 1) (mVar 2)))) (mNil))) (mVar 5)))) (mNil))))) (sRet (mConst (.bool false))) (sNext)
def p_law_planned_12 : MS := sIf (mOrT (mAndT (mB (mOp2 gGe (mOp2 gMul (mOp2 gSub (mCall f_cycles_of 2 (mCons (mVar 4) (mCons (mVar 5) (mNil)))) (mConst (.int 1))) (mVar 5)) (mOp2 gSub (mOpN gLen (mCons (mVar 7) (mNil))) (mConst (.int 1))))) (mB (mOp2 gGt (mOpN gLen (mCons (mVar 7) (mNil))) (mConst (.int 1))))) (mB (mOp2 gLt (mOp2 gMul (mCall f_cycles_of 2 (mCons (mVar 4) (mCons (mVar 5) (mNil)))) (mVar 5)) (mOp2 gSub (mOpN gLen (mCons (mVar 7) (mNil))) (mConst (.int 1)))))) (sRet (mConst (.bool false))) (sNext)
def p_law_planned_13 : MS := sAsg (mCall f_rests_for 5 (mCons (mVar 1) (mCons (mVar 3) (mCons (mVar 5) (mCons (mVar 6) (mCons (mConst (.int 25)) (mNil))))))) (gN 8)
def p_law_planned_14 : MS := sIf (mB (mOp2 gNe (mVar 8) (mNew (mLc [19] (mItN itR1 (mCons (mConst (.int 26)) (mNil))) (gN 19) (mB (mOp2 gEq (mOp2 gMod (mOpN gInt (mCons (mOp2 gSub (mOp2 gAdd (mOp2 gAdd (mVar 6) (mOp2 gMul (mVar 1) (mVar 3))) (mOp2 gMul (mVar 19) (mOp2 gSub (mVar 3) (mConst (.int 1))))) (mConst (.int 1))) (mNil))) (mVar 5)) (mConst (.int 0)))) (mVar 19))))) (sRet (mConst (.bool false))) (sNext)
def p_law_planned_15 : MS := sIf (mB (mOp2 gNe (mCall f_phrases_for 5 (mCons (mVar 2) (mCons (mVar 3) (mCons (mVar 5) (mCons (mVar 6) (mCons (mConst (.int 25)) (mNil))))))) (mNew (mLc [19] (mItN itR2 (mCons (mConst (.int 1)) (mCons (mConst (.int 26)) (mNil)))) (gN 19) (mB (mOp2 gEq (mOp2 gMod (mOpN gInt (mCons (mOp2 gSub (mOp2 gAdd (mOp2 gAdd (mVar 6) (mOp2 gMul (mVar 19) (mVar 3))) (mOp2 gMul (mVar 2) (mOp2 gSub (mVar 3) (mConst (.int 1))))) (mConst (.int 1))) (mNil))) (mVar 5)) (mConst (.int 0)))) (mVar 19))))) (sRet (mConst (.bool false))) (sNext)
def p_law_planned_16 : MS := sAsg (mCall f_first_rest 4 (mCons (mVar 1) (mCons (mVar 3) (mCons (mVar 5) (mCons (mVar 6) (mNil)))))) (gN 9)
def p_law_planned_17 : MS := sAsg (mNew (mLc [19] (mItN itR1 (mCons (mOp2 gAdd (mVar 5) (mConst (.int 1))) (mNil))) (gN 19) (mB (mOp2 gEq (mOp2 gMod (mOpN gInt (mCons (mOp2 gSub (mOp2 gAdd (mOp2 gAdd (mVar 6) (mOp2 gMul (mVar 1) (mVar 3))) (mOp2 gMul (mVar 19) (mOp2 gSub (mVar 3) (mConst (.int 1))))) (mConst (.int 1))) (mNil))) (mVar 5)) (mConst (.int 0)))) (mVar 19))) (gN 10)
def p_law_planned_18 : MS := sIf (mB (mOp2 gNe (mVar 9) (mIf (mB (mOp2 gGt (mOpN gLen (mCons (mVar 10) (mNil))) (mConst (.int 0)))) (mOp2 gIxA (mVar 10) (mConst (.int 0))) (mConst .none)))) (sRet (mConst (.bool false))) (sNext)
def p_law_planned_19 : MS := sAsg (mOp2 gAdd (mConst (.int 1)) (mCall f__law_draw 2 (mCons (mVar 0) (mCons (mConst (.int 3)) (mNil))))) (gN 11)
def p_law_planned_20 : MS := sAsg (mCall f_plans_filling 3 (mCons (mVar 3) (mCons (mVar 5) (mCons (mVar 11) (mNil))))) (gN 12)
def p_law_planned_21 : MS := sIf (mTru (mOpN gAny (mCons (mNew (mLc [19] (mIt itA (mVar 12)) (gN 19) (mYes) (mOr (mOp2 gNe (mCall f_length_of 1 (mCons (mVar 19) (mNil))) (mOp2 gAdd (mOp2 gMul (mVar 5) (mVar 11)) (mConst (.int 1)))) (mOp2 gNe (mOp2 gIxA (mVar 19) (mConst (.int 2))) (mVar 3))))) (mNil)))) (sRet (mConst (.bool false))) (sNext)
def p_law_planned_22 : MS := sIf (mB (mOp2 gNe (mOpN gLen (mCons (mVar 12) (mNil))) (mOpN gLen (mCons (mNew (mLc [19] (mItN itR2 (mCons (mConst (.int 1)) (mCons (mOp2 gAdd (mOp2 gMul (mVar 5) (mVar 11)) (mConst (.int 2))) (mNil)))) (gN 19) (mAndT (mB (mOp2 gGe (mOp2 gAdd (mOp2 gMul (mVar 5) (mVar 11)) (mConst (.int 1))) (mOp2 gMul (mVar 19) (mVar 3)))) (mB (mOp2 gEq (mOp2 gMod (mOpN gInt (mCons (mOp2 gSub (mOp2 gAdd (mOp2 gMul (mVar 5) (mVar 11)) (mConst (.int 1))) (mOp2 gMul (mVar 19) (mVar 3))) (mNil))) (mOp2 gSub (mVar 3) (mConst (.int 1)))) (mConst (.int 0))))) (mVar 19))) (mNil))))) (sRet (mConst (.bool false))) (sNext)
def p_law_planned_23 : MS := sAsg (mCall f_plan_of 2 (mCons (mVar 7) (mCons (mVar 3) (mNil)))) (gN 13)
def p_law_planned_24 : MS := sIf (mOrT (mB (mOp2 gIs (mVar 13) (mConst .none))) (mOrT (mB (mOp2 gNe (mCall f_row_of 1 (mCons (mVar 13) (mNil))) (mVar 7))) (mOrT (mB (mOp2 gNe (mOp2 gIxA (mVar 13) (mConst (.int 2))) (mVar 3))) (mOrT (mB (mOp2 gGt (mOp2 gIxA (mVar 13) (mConst (.int 1))) (mVar 2))) (mB (mOp2 gIsNot (mCall f_plan_of 2 (mCons (mOp2 gAdd (mVar 7) (mTup (mCons (mConst (.int 0)) (mNil)))) (mCons (mVar 3) (mNil)))) (mConst .none))))))) (sRet (mConst (.bool false))) (sNext)
def p_law_planned_25 : MS := sAsg (mCall f__law_draw 2 (mCons (mVar 0) (mCons (mConst (.int 4)) (mNil)))) (gN 14)
def p_law_planned_26 : MS := sIf (mOrT (mB (mOp2 gNe (mCall f_nested 3 (mCons (mVar 4) (mCons (mVar 14) (mCons (mConst (.int 3)) (mNil))))) (mOp2 gAdd (mOp2 gAdd (mOp2 gAdd (mOp2 gAdd (mVar 7) (mOp2 gMul (mTup (mCons (mConst (.int 0)) (mNil))) (mVar 14))) (mVar 7)) (mOp2 gMul (mTup (mCons (mConst (.int 0)) (mNil))) (mVar 14))) (mVar 7)))) (mB (mOp2 gNe (mCall f_nested_length 3 (mCons (mVar 4) (mCons (mVar 14) (mCons (mConst (.int 3)) (mNil))))) (mOp2 gAdd (mOp2 gMul (mConst (.int 3)) (mOpN gLen (mCons (mVar 7) (mNil)))) (mOp2 gMul (mConst (.int 2)) (mVar 14)))))) (sRet (mConst (.bool false))) (sNext)
def p_law_planned_27 : MS := sAsg (mOp2 gAdd (mConst (.int 1)) (mCall f__law_draw 2 (mCons (mVar 0) (mCons (mConst (.int 3)) (mNil))))) (gN 15)
def p_law_planned_28 : MS := sAsg (mCall f_shrinking 4 (mCons (mVar 1) (mCons (mVar 15) (mCons (mVar 2) (mCons (mVar 5) (mNil)))))) (gT 2 (gsC (gN 16) (gsC (gN 17) (gsN))))
def p_law_planned_29 : MS := sAsg (mOp2 gAdd (mOpN gSum (mCons (mVar 16) (mNil))) (mOp2 gMul (mVar 2) (mOp2 gSub (mOpN gLen (mCons (mVar 16) (mNil))) (mConst (.int 1))))) (gN 18)
def p_law_planned_30 : MS := sRet (mAnd (mOp2 gEq (mVar 16) (mOpN gTuple (mCons (mNew (mLc [22] (mItN itR1 (mCons (mVar 1) (mNil))) (gN 22) (mB (mOp2 gGt (mOp2 gSub (mVar 1) (mOp2 gMul (mVar 22) (mVar 15))) (mConst (.int 0)))) (mOp2 gSub (mVar 1) (mOp2 gMul (mVar 22) (mVar 15))))) (mNil)))) (mOp2 gEq (mOp2 gMod (mOpN gInt (mCons (mOp2 gSub (mOp2 gAdd (mVar 17) (mVar 18)) (mConst (.int 1))) (mNil))) (mVar 5)) (mConst (.int 0))))
def p_law_planned : MS := sSeq p_law_planned_1 (sSeq p_law_planned_2 (sSeq p_law_planned_3 (sSeq p_law_planned_4 (sSeq p_law_planned_5 (sSeq p_law_planned_6 (sSeq p_law_planned_7 (sSeq p_law_planned_8 (sSeq p_law_planned_9 (sSeq p_law_planned_10 (sSeq p_law_planned_11 (sSeq p_law_planned_12 (sSeq p_law_planned_13 (sSeq p_law_planned_14 (sSeq p_law_planned_15 (sSeq p_law_planned_16 (sSeq p_law_planned_17 (sSeq p_law_planned_18 (sSeq p_law_planned_19 (sSeq p_law_planned_20 (sSeq p_law_planned_21 (sSeq p_law_planned_22 (sSeq p_law_planned_23 (sSeq p_law_planned_24 (sSeq p_law_planned_25 (sSeq p_law_planned_26 (sSeq p_law_planned_27 (sSeq p_law_planned_28 (sSeq p_law_planned_29 p_law_planned_30))))))))))))))))))))))))))))
theorem p_law_planned_is : m__law_planned = p_law_planned := rfl
end K20

set_option Elab.async false
set_option linter.all false
set_option autoImplicit false
set_option maxRecDepth 100000
set_option maxHeartbeats 2000000
namespace K20
open PySem PySem.Spec PyProof.Rows L2 VL
/-- what the law draws for a plan -/
structure Dm (p r t c s : Nat) : Prop where
  p1 : 1 ≤ p
  p2 : p ≤ 9
  r2 : r ≤ 5
  t1 : 2 ≤ t
  t2 : t ≤ 5
  c1 : 1 ≤ c
  c2 : c ≤ 20
  s2 : s < c
def sp (b : Box) (p r t c s : Nat) (s8 s9 s10 s11 s12 s13 s14 s15 s16 s17 s18 : SV) : Rho := [.iol b, .val (.int p), .val (.int r), .val (.int t), .val (pl p r t), .val (.int c), .val (.int s), .val (.tuple ((rowN p r t).map .int)), s8, s9, s10, s11, s12, s13, s14, s15, s16, s17, s18, .no, .no, .no, .no]
theorem gMul_n {l : List PyData} {n : Nat} (h : n < 1000000) (h2 : l.length * n ≤ 16777216) : gMul (.tuple l) (.int n) = some (.tuple (List.replicate n l).flatten) := by
  have : repOk l (n : Int) = true := by
    unfold repOk
    rw [Bool.and_eq_true, decide_eq_true_eq, decide_eq_true_eq]
    constructor
    · omega
    · simpa using h2
  rw [gMul_ti, this]
  simp
section
variable {p r t c s : Nat} {b : Box} {sc : List Int} (D : Dm p r t c s)
include D
theorem Dm.ln : Ln p r t ≤ 65 := by
  unfold Ln
  have h1 : p * t ≤ 9 * 5 := Nat.mul_le_mul D.p2 D.t2
  have h2 : r * (t - 1) ≤ 5 * 4 := Nat.mul_le_mul D.r2 (by have := D.t2; omega)
  omega
theorem Dm.row : rowN p r t = rowB p r t := by
  have h1 := D.p1; have h2 := D.p2; have h3 := D.r2; have h4 := D.t1; have h5 := D.t2
  have := row_is0 (p - 1) (by omega) r (by omega) (t - 2) (by omega)
  rwa [show p - 1 + 1 = p by omega, show t - 2 + 2 = t by omega] at this
theorem Dm.plan : planF (rowN p r t) t = some (p, r) ∧ planF (rowN p r t ++ [0]) t = none := by
  have h1 := D.p1; have h2 := D.p2; have h3 := D.r2; have h4 := D.t1; have h5 := D.t2
  have := plan_is0 (p - 1) (by omega) r (by omega) (t - 2) (by omega)
  rwa [show p - 1 + 1 = p by omega, show t - 2 + 2 = t by omega] at this
end
theorem planned_a {b : Box} {sc : List Int} (k : StOk b sc) : ∃ (b' : Box) (p r t c s : Nat), StOk b' sc ∧ Dm p r t c s ∧ ∀ rest : MS,
    sSeq p_law_planned_1 (sSeq p_law_planned_2 (sSeq p_law_planned_3 (sSeq p_law_planned_4 (sSeq p_law_planned_5 (sSeq p_law_planned_6 rest))))) [.iol b, .no, .no, .no, .no, .no, .no, .no, .no, .no, .no, .no, .no, .no, .no, .no, .no, .no, .no, .no, .no, .no, .no]
      = rest [.iol b', .val (.int p), .val (.int r), .val (.int t), .val (pl p r t), .val (.int c), .val (.int s), .no, .no, .no, .no, .no, .no, .no, .no, .no, .no, .no, .no, .no, .no, .no, .no] := by
  obtain ⟨b1, x1, k1, l1, u1, e1⟩ := c_draw k (n := 9) (by decide) (by decide)
  obtain ⟨b2, x2, k2, l2, u2, e2⟩ := c_draw k1 (n := 6) (by decide) (by decide)
  obtain ⟨b3, x3, k3, l3, u3, e3⟩ := c_draw k2 (n := 4) (by decide) (by decide)
  obtain ⟨b4, x4, k4, l4, u4, e4⟩ := c_draw k3 (n := 20) (by decide) (by decide)
  obtain ⟨p, hp⟩ : ∃ p : Nat, 1 + x1 = (p : Int) := ⟨(1 + x1).toNat, by omega⟩
  obtain ⟨r, hr⟩ : ∃ p : Nat, x2 = (p : Int) := ⟨x2.toNat, by omega⟩
  obtain ⟨t, ht⟩ : ∃ p : Nat, 2 + x3 = (p : Int) := ⟨(2 + x3).toNat, by omega⟩
  obtain ⟨c, hc⟩ : ∃ p : Nat, 1 + x4 = (p : Int) := ⟨(1 + x4).toNat, by omega⟩
  obtain ⟨b5, x5, k5, l5, u5, e5⟩ := c_draw k4 (n := (c : Int)) (by omega) (by omega)
  obtain ⟨s, hs⟩ : ∃ p : Nat, x5 = (p : Int) := ⟨x5.toNat, by omega⟩
  subst hr hs
  refine ⟨b5, p, r, t, c, s, k5, ⟨by omega, by omega, by omega, by omega, by omega, by omega, by omega, by omega⟩, fun rest => ?_⟩
  simp [p_law_planned_1, p_law_planned_2, p_law_planned_3, p_law_planned_4, p_law_planned_5, p_law_planned_6, (e1 _).1, (e2 _).1, (e3 _).1, (e4 _).1, (e5 _).1, hp, ht, hc, pl]
theorem planned_7 {p r t c s : Nat} {b : Box} (D : Dm p r t c s) : p_law_planned_7 [.iol b, .val (.int p), .val (.int r), .val (.int t), .val (pl p r t), .val (.int c), .val (.int s), .no, .no, .no, .no, .no, .no, .no, .no, .no, .no, .no, .no, .no, .no, .no, .no] = .nx (sp b p r t c s .no .no .no .no .no .no .no .no .no .no .no) := by
  have h1 := D.p1; have h2 := D.p2; have h3 := D.r2; have h4 := D.t1; have h5 := D.t2
  have eu : (t : Int) - 1 = ((t - 1 : Nat) : Int) := by omega
  have g1 : gMul (.tuple [.int 1]) (.int p) = some (.tuple (List.replicate p [PyData.int 1]).flatten) := gMul_n (by omega) (by simp; omega)
  have g2 : gMul (.tuple [.int 0]) (.int r) = some (.tuple (List.replicate r [PyData.int 0]).flatten) := gMul_n (by omega) (by simp; omega)
  have m1 : (p + r) * (t - 1) ≤ 14 * 4 := Nat.mul_le_mul (by omega) (by omega)
  have g3 : gMul (.tuple ((List.replicate p [PyData.int 1]).flatten ++ (List.replicate r [PyData.int 0]).flatten)) (.int ((t - 1 : Nat) : Int)) = some (.tuple (List.replicate (t - 1) ((List.replicate p [PyData.int 1]).flatten ++ (List.replicate r [PyData.int 0]).flatten)).flatten) := gMul_n (by omega) (by simp [rep1]; omega)
  have er : (rowN p r t).map PyData.int = (List.replicate (t - 1) ((List.replicate p [PyData.int 1]).flatten ++ (List.replicate r [PyData.int 0]).flatten)).flatten ++ (List.replicate p [PyData.int 1]).flatten := by
    rw [D.row]
    unfold rowB
    simp [List.map_flatten, List.map_replicate]
  have l1 : p + r ≤ 16777216 := by omega
  have l2 : (t - 1) * (p + r) + p ≤ 16777216 := by rw [Nat.mul_comm]; omega
  unfold sp
  rw [er]
  simp only [rep1] at g1 g2 g3 ⊢
  simp [-gMul_ti, p_law_planned_7, g1, g2, g3, eu, l1, l2]
section
variable {p r t c s : Nat} {b : Box} {sc : List Int} (D : Dm p r t c s) {s8 s9 s10 s11 s12 s13 s14 s15 s16 s17 s18 : SV}
include D
theorem planned_8 : p_law_planned_8 (sp b p r t c s s8 s9 s10 s11 s12 s13 s14 s15 s16 s17 s18) = .nx (sp b p r t c s s8 s9 s10 s11 s12 s13 s14 s15 s16 s17 s18) := by
  have h1 := D.p1; have h2 := D.p2; have h3 := D.r2; have h4 := D.t1; have h5 := D.t2
  have hl := D.ln
  have c1 : ∀ ρ, callD f_is_plan 1 [.v (pl p r t)] ρ = .ok (.v (.bool true)) ρ := fun ρ => callV1 (s_isplan (by omega) (by omega) (by omega) (by omega) (by omega))
  have c2 : ∀ ρ, callD f_is_plan 1 [.v (.tuple [.int 0, .int r, .int t])] ρ = .ok (.v (.bool false)) ρ := fun ρ => callV1 (s_notplan _ _)
  have c3 := c_len (p := p) (r := r) (t := t) (by omega) (by omega)
  have c4 := c_row (p := p) (r := r) (t := t) (by omega) (by omega) (by omega) (by omega)
  have rl : (rowN p r t).length = Ln p r t := row_len
  simp only [sp]
  simp [p_law_planned_8, c1, c2, c3, c4, c_same, rl]
theorem Dm.st0 : 0 ≤ (1 - (Ln p r t : Int)).fmod c ∧ (1 - (Ln p r t : Int)).fmod c < c ∧ ((1 - (Ln p r t : Int)).fmod c + (Ln p r t : Nat) - 1).fmod c = 0 := by
  have h1 := D.c1
  refine ⟨Int.fmod_nonneg_of_pos _ (by omega), Int.fmod_lt_of_pos _ (by omega), ?_⟩
  generalize (Ln p r t : Int) = L
  rw [Int.fmod_eq_emod_of_nonneg _ (by omega), Int.fmod_eq_emod_of_nonneg _ (by omega)]
  rw [show (1 - L) % (c : Int) + L - 1 = (1 - L) % (c : Int) + (L - 1) by omega, Int.emod_add_emod]
  rw [show 1 - L + (L - 1) = 0 by omega]
  simp
theorem planned_9 : p_law_planned_9 (sp b p r t c s s8 s9 s10 s11 s12 s13 s14 s15 s16 s17 s18) = .nx (sp b p r t c s s8 s9 s10 s11 s12 s13 s14 s15 s16 s17 s18) := by
  have h1 := D.p1; have h2 := D.p2; have h3 := D.r2; have h4 := D.t1; have h5 := D.t2; have h6 := D.c1
  have hl := D.ln
  have c1 := fun s => c_end (p := p) (r := r) (t := t) (c := c) (s := s) (by omega) (by omega) h6
  have c2 := c_start (p := p) (r := r) (t := t) (c := c) (by omega) (by omega) h6
  have rl : (rowN p r t).length = Ln p r t := row_len
  obtain ⟨z1, z2, z3⟩ := D.st0
  have hc0 : ¬ c = 0 := by omega
  have ro : rangeOf [.int (c : Int)] = some (0, (c : Int)) := rfl
  generalize (1 - (Ln p r t : Int)).fmod c = st at *
  simp only [sp]
  simp [p_law_planned_9, c1, c2, rl, hc0, z1, z2, z3, ro]
end
end K20

set_option Elab.async false
set_option linter.all false
set_option autoImplicit false
set_option maxRecDepth 100000
set_option maxHeartbeats 2000000
namespace K20
open PySem PySem.Spec PyProof.Rows L2 VL
section
variable {p r t c s : Nat} {b : Box} {sc : List Int} (D : Dm p r t c s) {s8 s9 s10 s11 s12 s13 s14 s15 s16 s17 s18 : SV}
include D
theorem planned_10 : p_law_planned_10 (sp b p r t c s s8 s9 s10 s11 s12 s13 s14 s15 s16 s17 s18) = .nx (sp b p r t c s s8 s9 s10 s11 s12 s13 s14 s15 s16 s17 s18) := by
  have h1 := D.p1; have h2 := D.p2; have h3 := D.r2; have h4 := D.t1; have h5 := D.t2; have h6 := D.c1
  have hl := D.ln
  have rl : (rowN p r t).length = Ln p r t := row_len
  have er : itR1 [.int (Ln p r t : Nat)] = some ((List.range (Ln p r t)).map fun i : Nat => PyData.int (i : Int)) := by
    rw [r1_small (by omega) (by omega), rangeD0, show ((Ln p r t : Nat) : Int).toNat = Ln p r t by omega]
  have e1 : ∀ ρ, callD f__law_sounding 2 [.v (pl p r t), .v (.int (Ln p r t : Nat))] ρ = .ok (.v .none) ρ := fun ρ => callV2 (x_lsnd (by omega) (by omega) (by omega))
  have e2 : ∀ ρ, callD f__law_sounding 2 [.v (pl p r t), .v (.int (-1))] ρ = .ok (.v .none) ρ := fun ρ => callV2 (x_lsnd (by omega) (by omega) (by omega))
  have l1 := lc_map (own := [20]) (t := gN 20) (mt := mYes) (me := mFrz (mCall f__law_sounding 2 (mCons (mVar 4) (mCons (mVar 20) (mNil))))) (ρ := sp b p r t c s s8 s9 s10 s11 s12 s13 s14 s15 s16 s17 s18) (fun i : Nat => PyData.int (i : Int)) (fun i => some (.bool (decide (i % (p + r) < p)))) (List.range (Ln p r t)) fun i hi => by
    have cs : ∀ ρ, callD f__law_sounding 2 [.v (pl p r t), .v (.int (i : Int))] ρ = .ok (.v (.bool (decide (i % (p + r) < p)))) ρ := fun ρ => callV2 (s_lsnd (by omega) (by omega) (by omega) (List.mem_range.mp hi))
    simp [lcStep, wipeR, unwipe, sp, cs]
  have l2 := lc_map (own := [21]) (t := gN 21) (mt := mYes) (me := mFrz (mOp2 gEq (mVar 21) (mConst (.int 1)))) (ρ := sp b p r t c s s8 s9 s10 s11 s12 s13 s14 s15 s16 s17 s18) PyData.int (fun x => some (.bool (decide (x = 1)))) (rowN p r t) fun x _ => by
    simp [lcStep, wipeR, unwipe, sp]
  rw [filterMap_all] at l1 l2
  have el : (rowN p r t).map (fun x => PyData.bool (decide (x = 1))) = (List.range (Ln p r t)).map fun i => PyData.bool (decide (i % (p + r) < p)) := by
    unfold rowN Ln
    rw [List.map_map]
    apply List.map_congr_left
    intro i _
    by_cases q : i % (p + r) < p <;> simp [q]
  rw [el] at l2
  have sh : SeqAt.shaped (.list ((List.range (Ln p r t)).map fun i => PyData.bool (decide (i % (p + r) < p)))) = true := shaped_l fun d hd => by
    obtain ⟨x, _, rfl⟩ := List.mem_map.mp hd
    rfl
  have len : Ln p r t ≤ 16777216 := by omega
  simp only [sp] at l1 l2 ⊢
  simp [p_law_planned_10, rl, er, len, l1, l2, gNe_same sh, e1, e2]
theorem planned_11 : p_law_planned_11 (sp b p r t c s s8 s9 s10 s11 s12 s13 s14 s15 s16 s17 s18) = .nx (sp b p r t c s s8 s9 s10 s11 s12 s13 s14 s15 s16 s17 s18) := by
  have h1 := D.p1; have h2 := D.p2; have h3 := D.r2; have h4 := D.t1; have h5 := D.t2; have h6 := D.c1
  have hc' : ¬ c = 0 := by omega
  have cs := c_str (p := p) (r := r) (t := t) (c := c) (s := (s : Int)) (by omega) (by omega) (by omega) (by omega)
  have mo : ∀ i : Int, mulOk i ((p : Int) + r) = true := fun i => mO (by omega) (by omega)
  have l := lc_map (own := [22]) (t := gN 22) (mt := mYes) (me := mFrz (mOp2 gMod (mOpN gInt (mCons (mOp2 gAdd (mVar 6) (mOp2 gMul (mVar 22) (mOp2 gAdd (mVar 1) (mVar 2)))) (mNil))) (mVar 5))) (ρ := sp b p r t c s s8 s9 s10 s11 s12 s13 s14 s15 s16 s17 s18) (fun i : Nat => PyData.int (i : Int)) (fun i => some (.int (((s : Int) + (i : Int) * ((p : Int) + r)).fmod c))) (List.range t) fun i _ => by
    simp [lcStep, wipeR, unwipe, sp, mo, hc']
  rw [filterMap_all] at l
  have el : (List.range t).map (fun i : Nat => PyData.int (((s : Int) + (i : Int) * ((p : Int) + r)).fmod c)) = (strL p r t c s).map .int := by
    unfold strL
    rw [List.map_map]
    rfl
  rw [el] at l
  have er : itR1 [.int (t : Int)] = some ((List.range t).map fun i : Nat => PyData.int (i : Int)) := by
    rw [r1_small (by omega) (by omega), rangeD0, show (t : Int).toNat = t by omega]
  have len : t ≤ 16777216 := by omega
  simp only [sp] at l ⊢
  simp [p_law_planned_11, cs, er, len, l]
theorem planned_12 : p_law_planned_12 (sp b p r t c s s8 s9 s10 s11 s12 s13 s14 s15 s16 s17 s18) = .nx (sp b p r t c s s8 s9 s10 s11 s12 s13 s14 s15 s16 s17 s18) := by
  have h1 := D.p1; have h2 := D.p2; have h3 := D.r2; have h4 := D.t1; have h5 := D.t2; have h6 := D.c1; have h7 := D.c2
  have hl := D.ln
  have cc := c_cyc (p := p) (r := r) (t := t) (c := c) (by omega) (by omega) (by omega) (by omega)
  have rl : (rowN p r t).length = Ln p r t := row_len
  have hL : 1 ≤ Ln p r t := by
    unfold Ln
    have : 1 * 1 ≤ p * t := Nat.mul_le_mul h1 (by omega)
    omega
  have mo1 : ∀ i : Int, mulOk i (c : Int) = true := fun i => mO (by omega) (by omega)
  rw [Int.fdiv_eq_ediv_of_nonneg _ (by omega)] at cc
  have e1 := Int.mul_ediv_add_emod ((Ln p r t : Int) - 1 + c - 1) c
  have e2 := Int.emod_nonneg ((Ln p r t : Int) - 1 + c - 1) (show (c : Int) ≠ 0 by omega)
  have e3 := Int.emod_lt_of_pos ((Ln p r t : Int) - 1 + c - 1) (show (0 : Int) < c by omega)
  generalize ((Ln p r t : Int) - 1 + c - 1) / c = q at *
  generalize ((Ln p r t : Int) - 1 + c - 1) % c = m at *
  have e4 : (q - 1) * c = c * q - c := by rw [Int.sub_mul, Int.one_mul, Int.mul_comm]
  have e5 : q * c = c * q := Int.mul_comm _ _
  generalize (c : Int) * q = z at *
  generalize Ln p r t = L at *
  have g2 : ¬ ((L : Int) - 1 ≤ (q - 1) * c ∧ 1 < (L : Int)) := by rw [e4]; omega
  have g3 : ¬ (q * (c : Int) < (L : Int) - 1) := by rw [e5]; omega
  simp only [sp]
  by_cases g4 : (L : Int) - 1 ≤ (q - 1) * c
  · have g5 : ¬ (1 < (L : Int)) := fun x => g2 ⟨g4, by omega⟩
    simp [p_law_planned_12, cc, rl, mo1, g4, g5, g3]
  · simp [p_law_planned_12, cc, rl, mo1, g4, g3]
theorem planned_13 : p_law_planned_13 (sp b p r t c s .no s9 s10 s11 s12 s13 s14 s15 s16 s17 s18) = .nx (sp b p r t c s (.val (.list ((restsL p t c s 26).map .int))) s9 s10 s11 s12 s13 s14 s15 s16 s17 s18) := by
  have h1 := D.p1; have h2 := D.p2; have h3 := D.r2; have h4 := D.t1; have h5 := D.t2; have h6 := D.c1; have h7 := D.c2
  have cr := c_rests (p := p) (t := t) (c := c) (s := (s : Int)) (m := 25) (by omega) (by omega) (by omega) (by omega)
  have cr : ∀ ρ, callD f_rests_for 5 [.v (.int p), .v (.int t), .v (.int c), .v (.int s), .v (.int 25)] ρ = _ := cr
  simp only [sp]
  simp [p_law_planned_13, cr]
theorem ends_law {i : Nat} (x : Nat) : ends x i t c s ↔ ((s : Int) + (x : Int) * t + (i : Int) * ((t : Int) - 1) - 1).fmod c = 0 := by
  unfold ends
  rw [Ln_cast (by have := D.t1; omega), ← Int.add_assoc]
theorem rests_lc (m : Nat) : lcLoop [19] (gN 19) (mB (mOp2 gEq (mOp2 gMod (mOpN gInt (mCons (mOp2 gSub (mOp2 gAdd (mOp2 gAdd (mVar 6) (mOp2 gMul (mVar 1) (mVar 3))) (mOp2 gMul (mVar 19) (mOp2 gSub (mVar 3) (mConst (.int 1))))) (mConst (.int 1))) (mNil))) (mVar 5)) (mConst (.int 0)))) (mFrz (mVar 19)) ((List.range m).map fun i : Nat => PyData.int (i : Int)) (sp b p r t c s s8 s9 s10 s11 s12 s13 s14 s15 s16 s17 s18) = .ok ((restsL p t c s m).map .int) (sp b p r t c s s8 s9 s10 s11 s12 s13 s14 s15 s16 s17 s18) := by
  have h4 := D.t1; have h5 := D.t2; have h6 := D.c1
  have hc' : ¬ c = 0 := by omega
  have m1 : mulOk (p : Int) t = true := mO (by omega) (by omega)
  have m2 : ∀ i : Int, mulOk i ((t : Int) - 1) = true := fun i => mO (by omega) (by omega)
  have l := lc_map (own := [19]) (t := gN 19) (mt := (mB (mOp2 gEq (mOp2 gMod (mOpN gInt (mCons (mOp2 gSub (mOp2 gAdd (mOp2 gAdd (mVar 6) (mOp2 gMul (mVar 1) (mVar 3))) (mOp2 gMul (mVar 19) (mOp2 gSub (mVar 3) (mConst (.int 1))))) (mConst (.int 1))) (mNil))) (mVar 5)) (mConst (.int 0))))) (me := mFrz (mVar 19)) (ρ := sp b p r t c s s8 s9 s10 s11 s12 s13 s14 s15 s16 s17 s18) (fun i : Nat => PyData.int (i : Int)) (fun i => if ends p i t c s then some (.int (i : Int)) else none) (List.range m) fun i _ => by
    by_cases h : ends p i t c s
    · have h' := (ends_law D (i := i) p).mp h
      simp [lcStep, wipeR, unwipe, sp, hc', m1, m2, h, h']
    · have h' : ¬ ((s : Int) + (p : Int) * t + (i : Int) * ((t : Int) - 1) - 1).fmod c = 0 := fun q => h ((ends_law D (i := i) p).mpr q)
      simp [lcStep, wipeR, unwipe, sp, hc', m1, m2, h, h']
  rw [fm_ints] at l
  exact l
theorem planned_14 : p_law_planned_14 (sp b p r t c s (.val (.list ((restsL p t c s 26).map .int))) s9 s10 s11 s12 s13 s14 s15 s16 s17 s18) = .nx (sp b p r t c s (.val (.list ((restsL p t c s 26).map .int))) s9 s10 s11 s12 s13 s14 s15 s16 s17 s18) := by
  have l := rests_lc D (b := b) (s8 := (.val (.list ((restsL p t c s 26).map .int)))) (s9 := s9) (s10 := s10) (s11 := s11) (s12 := s12) (s13 := s13) (s14 := s14) (s15 := s15) (s16 := s16) (s17 := s17) (s18 := s18) 26
  have er : itR1 [.int 26] = some ((List.range 26).map fun i : Nat => PyData.int (i : Int)) := rfl
  generalize hr : List.range 26 = R at *
  have len : R.length ≤ 16777216 := by rw [← hr]; simp
  simp only [sp] at l ⊢
  simp [p_law_planned_14, er, len, l]
theorem planned_15 : p_law_planned_15 (sp b p r t c s s8 s9 s10 s11 s12 s13 s14 s15 s16 s17 s18) = .nx (sp b p r t c s s8 s9 s10 s11 s12 s13 s14 s15 s16 s17 s18) := by
  have h1 := D.p1; have h2 := D.p2; have h3 := D.r2; have h4 := D.t1; have h5 := D.t2; have h6 := D.c1; have h7 := D.c2
  have cp := c_phr (r := r) (t := t) (c := c) (s := (s : Int)) (m := 25) (by omega) (by omega) (by omega) (by omega)
  have cp : ∀ ρ, callD f_phrases_for 5 [.v (.int r), .v (.int t), .v (.int c), .v (.int s), .v (.int 25)] ρ = _ := cp
  have hc' : ¬ c = 0 := by omega
  have m1 : ∀ i : Int, mulOk i (t : Int) = true := fun i => mO (by omega) (by omega)
  have m2 : ∀ i : Int, mulOk i ((t : Int) - 1) = true := fun i => mO (by omega) (by omega)
  have l := lc_map (own := [19]) (t := gN 19) (mt := (mB (mOp2 gEq (mOp2 gMod (mOpN gInt (mCons (mOp2 gSub (mOp2 gAdd (mOp2 gAdd (mVar 6) (mOp2 gMul (mVar 19) (mVar 3))) (mOp2 gMul (mVar 2) (mOp2 gSub (mVar 3) (mConst (.int 1))))) (mConst (.int 1))) (mNil))) (mVar 5)) (mConst (.int 0))))) (me := mFrz (mVar 19)) (ρ := sp b p r t c s s8 s9 s10 s11 s12 s13 s14 s15 s16 s17 s18) (fun i : Nat => PyData.int ((i + 1 : Nat) : Int)) (fun i => if ends (i + 1) r t c s then some (.int ((i + 1 : Nat) : Int)) else none) (List.range 25) fun i _ => by
    generalize i + 1 = j
    by_cases h : ends j r t c s
    · have h' := (ends_law D (i := r) j).mp h
      simp [lcStep, wipeR, unwipe, sp, hc', m1, m2, h, h']
    · have h' : ¬ ((s : Int) + (j : Int) * t + (r : Int) * ((t : Int) - 1) - 1).fmod c = 0 := fun q => h ((ends_law D (i := r) j).mpr q)
      simp [lcStep, wipeR, unwipe, sp, hc', m1, m2, h, h']
  rw [fm_ints] at l
  have l : lcLoop [19] _ _ _ _ _ = .ok ((phrL r t c s 25).map .int) _ := l
  have er : itR2 [.int 1, .int 26] = some ((List.range 25).map fun i : Nat => PyData.int ((i + 1 : Nat) : Int)) := rfl
  generalize hr : List.range 25 = R at *
  have len : R.length ≤ 16777216 := by rw [← hr]; simp
  simp only [sp] at l ⊢
  simp [-Int.natCast_add, p_law_planned_15, cp, er, len, l]
theorem planned_16 : p_law_planned_16 (sp b p r t c s s8 .no s10 s11 s12 s13 s14 s15 s16 s17 s18) = .nx (sp b p r t c s s8 (.val (firstD (restsL p t c s (c + 1)))) s10 s11 s12 s13 s14 s15 s16 s17 s18) := by
  have h4 := D.t1; have h5 := D.t2; have h6 := D.c1; have h7 := D.c2
  have cf := c_first (p := p) (t := t) (c := c) (s := (s : Int)) (by omega) (by omega) (by omega) (by omega)
  simp only [sp]
  simp [p_law_planned_16, cf]
theorem planned_17 : p_law_planned_17 (sp b p r t c s s8 s9 .no s11 s12 s13 s14 s15 s16 s17 s18) = .nx (sp b p r t c s s8 s9 (.val (.list ((restsL p t c s (c + 1)).map .int))) s11 s12 s13 s14 s15 s16 s17 s18) := by
  have h6 := D.c1; have h7 := D.c2
  have l := rests_lc D (b := b) (s8 := s8) (s9 := s9) (s10 := .no) (s11 := s11) (s12 := s12) (s13 := s13) (s14 := s14) (s15 := s15) (s16 := s16) (s17 := s17) (s18 := s18) (c + 1)
  have er : itR1 [.int ((c : Int) + 1)] = some ((List.range (c + 1)).map fun i : Nat => PyData.int (i : Int)) := by
    rw [r1_small (by omega) (by omega), rangeD0, show ((c : Int) + 1).toNat = c + 1 by omega]
  generalize hr : List.range (c + 1) = R at *
  have len : R.length ≤ 16777216 := by rw [← hr]; simp; omega
  simp only [sp] at l ⊢
  simp [p_law_planned_17, er, len, l]
theorem planned_18 {l : List Int} : p_law_planned_18 (sp b p r t c s s8 (.val (firstD l)) (.val (.list (l.map .int))) s11 s12 s13 s14 s15 s16 s17 s18) = .nx (sp b p r t c s s8 (.val (firstD l)) (.val (.list (l.map .int))) s11 s12 s13 s14 s15 s16 s17 s18) := by
  simp only [sp]
  cases l with
  | nil => simp [p_law_planned_18, firstD]
  | cons x l =>
    have : (0 : Int) < (l.length : Int) + 1 := by omega
    simp [p_law_planned_18, firstD, at_zero, this]
end
end K20

set_option Elab.async false
set_option linter.all false
set_option autoImplicit false
set_option maxRecDepth 100000
set_option maxHeartbeats 2000000
namespace K20
open PySem PySem.Spec PyProof.Rows L2 VL
theorem row_last {p r t : Nat} : (rowN p r t ++ [0]).length = Ln p r t + 1 := by rw [List.length_append, row_len]; rfl
section
variable {p r t c s : Nat} {b : Box} {sc : List Int} (D : Dm p r t c s) {s8 s9 s10 s11 s12 s13 s14 s15 s16 s17 s18 : SV}
include D
theorem planned_19 (k : StOk b sc) : ∃ (b' : Box) (cy : Nat), StOk b' sc ∧ 1 ≤ cy ∧ cy ≤ 3 ∧ p_law_planned_19 (sp b p r t c s s8 s9 s10 .no s12 s13 s14 s15 s16 s17 s18) = .nx (sp b' p r t c s s8 s9 s10 (.val (.int cy)) s12 s13 s14 s15 s16 s17 s18) := by
  obtain ⟨b1, x1, k1, l1, u1, e1⟩ := c_draw k (n := 3) (by decide) (by decide)
  obtain ⟨p', hp⟩ : ∃ p : Nat, 1 + x1 = (p : Int) := ⟨(1 + x1).toNat, by omega⟩
  refine ⟨b1, p', k1, by omega, by omega, ?_⟩
  simp only [sp]
  simp [p_law_planned_19, (e1 _).1, hp]
theorem Dm.w {cy : Nat} (h : cy ≤ 3) : c * cy + 1 ≤ 61 := by
  have : c * cy ≤ 20 * 3 := Nat.mul_le_mul D.c2 h
  omega
theorem planned_20 {cy : Nat} (h : cy ≤ 3) : p_law_planned_20 (sp b p r t c s s8 s9 s10 (.val (.int cy)) .no s13 s14 s15 s16 s17 s18) = .nx (sp b p r t c s s8 s9 s10 (.val (.int cy)) (.val (.list ((fillL (c * cy + 1) t).map (fillP (c * cy + 1) t)))) s13 s14 s15 s16 s17 s18) := by
  have h4 := D.t1; have h5 := D.t2; have h6 := D.c1; have h7 := D.c2
  have hw := D.w h
  have cf := c_fill (t := t) (c := c) (cy := cy) (by omega) (by omega) (by omega) (by omega) (by omega)
  simp only [sp]
  simp [p_law_planned_20, cf]
theorem planned_21 {cy : Nat} (h : cy ≤ 3) : p_law_planned_21 (sp b p r t c s s8 s9 s10 (.val (.int cy)) (.val (.list ((fillL (c * cy + 1) t).map (fillP (c * cy + 1) t)))) s13 s14 s15 s16 s17 s18) = .nx (sp b p r t c s s8 s9 s10 (.val (.int cy)) (.val (.list ((fillL (c * cy + 1) t).map (fillP (c * cy + 1) t)))) s13 s14 s15 s16 s17 s18) := by
  have h4 := D.t1; have h5 := D.t2; have h6 := D.c1; have h7 := D.c2
  have hw := D.w h
  have mo : mulOk (c : Int) cy = true := mO (by omega) (by omega)
  have eW : (c : Int) * cy + 1 = ((c * cy + 1 : Nat) : Int) := by push_cast; rfl
  have k2 := Nat.div_mul_le_self (c * cy + 1) t
  have hlen : (fillL (c * cy + 1) t).length ≤ 61 := by
    unfold fillL
    have q1 := List.length_filter_le (fillK (c * cy + 1) t) (List.range ((c * cy + 1) / t))
    have q2 := Nat.div_le_self (c * cy + 1) t
    rw [List.length_range] at q1
    omega
  have hmem : ∀ k ∈ fillL (c * cy + 1) t, fillK (c * cy + 1) t k = true ∧ (k + 1) * t ≤ c * cy + 1 := fun k hk => by
    unfold fillL at hk
    obtain ⟨q1, q2⟩ := List.mem_filter.mp hk
    have q1 := List.mem_range.mp q1
    have h3 : (k + 1) * t ≤ (c * cy + 1) / t * t := Nat.mul_le_mul_right t q1
    exact ⟨q2, by omega⟩
  generalize c * cy + 1 = W at *
  generalize hL : fillL W t = Ls at *
  have l := lc_map (own := [19]) (t := gN 19) (mt := mYes) (me := mFrz (mOr (mOp2 gNe (mCall f_length_of 1 (mCons (mVar 19) (mNil))) (mOp2 gAdd (mOp2 gMul (mVar 5) (mVar 11)) (mConst (.int 1)))) (mOp2 gNe (mOp2 gIxA (mVar 19) (mConst (.int 2))) (mVar 3)))) (ρ := sp b p r t c s s8 s9 s10 (.val (.int cy)) (.val (.list (Ls.map (fillP W t)))) s13 s14 s15 s16 s17 s18) (fillP W t) (fun _ => some (.bool false)) Ls fun k hk => by
    obtain ⟨q1, q2⟩ := hmem k hk
    have cl := c_len (p := k + 1) (r := (W - (k + 1) * t) / (t - 1)) (t := t) (by omega) (by omega)
    rw [fillP_len h4 q1 q2] at cl
    have cl : ∀ ρ, callD f_length_of 1 [.v (fillP W t k)] ρ = .ok (.v (.int W)) ρ := cl
    have a2 : gIxA (fillP W t k) (.int 2) = some (.int t) := rfl
    simp [lcStep, wipeR, unwipe, sp, cl, mo, eW, a2]
  have ef : (Ls.filterMap fun _ => some (PyData.bool false)) = Ls.map fun _ => PyData.bool false := filterMap_all _ _
  rw [ef] at l
  have ea := any_map (fun _ : Nat => false) Ls
  have e0 : Ls.any (fun _ => false) = false := by simp
  rw [e0] at ea
  have len : Ls.length ≤ 16777216 := by omega
  simp only [sp] at l ⊢
  simp [-List.map_const, p_law_planned_21, len, l, ea]
theorem planned_22 {cy : Nat} (h0 : 1 ≤ cy) (h : cy ≤ 3) : p_law_planned_22 (sp b p r t c s s8 s9 s10 (.val (.int cy)) (.val (.list ((fillL (c * cy + 1) t).map (fillP (c * cy + 1) t)))) s13 s14 s15 s16 s17 s18) = .nx (sp b p r t c s s8 s9 s10 (.val (.int cy)) (.val (.list ((fillL (c * cy + 1) t).map (fillP (c * cy + 1) t)))) s13 s14 s15 s16 s17 s18) := by
  have h4 := D.t1; have h5 := D.t2; have h6 := D.c1; have h7 := D.c2
  have hw := D.w h
  have mo : mulOk (c : Int) cy = true := mO (by omega) (by omega)
  have mo2 : ∀ i : Int, mulOk i (t : Int) = true := fun i => mO (by omega) (by omega)
  have eW : (c : Int) * cy + 1 = ((c * cy + 1 : Nat) : Int) := by push_cast; rfl
  have eW2 : (c : Int) * cy + 2 = ((c * cy + 1 : Nat) : Int) + 1 := by push_cast; omega
  have fi := fill_is0 (c * cy + 1) (by omega) (t - 2) (by omega)
  rw [show t - 2 + 2 = t by omega, show t - 2 + 1 = t - 1 by omega] at fi
  have el : (fillL (c * cy + 1) t).length = ((List.range ((c * cy + 1) / t)).filter fun k => decide ((c * cy + 1 - (k + 1) * t) % (t - 1) = 0)).length := rfl
  have hlen : (fillL (c * cy + 1) t).length ≤ 61 := by
    unfold fillL
    have q1 := List.length_filter_le (fillK (c * cy + 1) t) (List.range ((c * cy + 1) / t))
    have q2 := Nat.div_le_self (c * cy + 1) t
    rw [List.length_range] at q1
    omega
  generalize c * cy + 1 = W at *
  rw [← el] at fi
  generalize hL : fillL W t = Ls at *
  have l := lc_map (own := [19]) (t := gN 19) (mt := (mAndT (mB (mOp2 gGe (mOp2 gAdd (mOp2 gMul (mVar 5) (mVar 11)) (mConst (.int 1))) (mOp2 gMul (mVar 19) (mVar 3)))) (mB (mOp2 gEq (mOp2 gMod (mOpN gInt (mCons (mOp2 gSub (mOp2 gAdd (mOp2 gMul (mVar 5) (mVar 11)) (mConst (.int 1))) (mOp2 gMul (mVar 19) (mVar 3))) (mNil))) (mOp2 gSub (mVar 3) (mConst (.int 1)))) (mConst (.int 0)))))) (me := mFrz (mVar 19)) (ρ := sp b p r t c s s8 s9 s10 (.val (.int cy)) (.val (.list (Ls.map (fillP W t)))) s13 s14 s15 s16 s17 s18) (fun i : Nat => PyData.int ((i + 1 : Nat) : Int)) (fun k => if (k + 1) * t ≤ W ∧ (W - (k + 1) * t) % (t - 1) = 0 then some (.int ((k + 1 : Nat) : Int)) else none) (List.range W) fun k _ => by
    have eu : (t : Int) - 1 = ((t - 1 : Nat) : Int) := by omega
    have u0 : ¬ t - 1 = 0 := by omega
    generalize t - 1 = u at *
    generalize k + 1 = j at *
    have ej : (j : Int) * t = ((j * t : Nat) : Int) := by push_cast; rfl
    by_cases q1 : j * t ≤ W
    · have q1' : ((j * t : Nat) : Int) ≤ W := by omega
      have e2 : (W : Int) - ((j * t : Nat) : Int) = ((W - j * t : Nat) : Int) := by omega
      have fm := fmod_nat (W - j * t) u
      by_cases q2 : (W - j * t) % u = 0
      · rw [q2] at fm
        simp only [lcStep, wipeR, unwipe, sp]
        simp [-Int.natCast_mul, mo, mo2, eW, ej, q1, q1', e2, eu, u0, fm, q2]
      · have q2' : ¬ (((W - j * t) % u : Nat) : Int) = 0 := by omega
        generalize (W - j * t) % u = M at *
        simp only [lcStep, wipeR, unwipe, sp]
        simp [-Int.natCast_mul, mo, mo2, eW, ej, q1, q1', e2, eu, u0, fm, q2]
    · have q1' : ¬ ((j * t : Nat) : Int) ≤ W := by omega
      simp only [lcStep, wipeR, unwipe, sp]
      simp [-Int.natCast_mul, mo, mo2, eW, ej, q1, q1']
  rw [fm_ints] at l
  have er : itR2 [.int 1, .int ((W : Int) + 1)] = some ((List.range W).map fun i : Nat => PyData.int ((i + 1 : Nat) : Int)) := by
    rw [r2_small (by omega) (by omega) (by omega) (by omega), rangeD1, show ((W : Int) + 1 - 1).toNat = W by omega]
  generalize hr : List.range W = R at *
  have len : R.length ≤ 16777216 := by rw [← hr]; simp; omega
  generalize hF : (R.filter fun k => decide ((k + 1) * t ≤ W ∧ (W - (k + 1) * t) % (t - 1) = 0)) = Fs at *
  simp only [sp] at l ⊢
  simp [-Int.natCast_add, p_law_planned_22, mo, eW2, er, len, l, fi]
theorem planned_23 : p_law_planned_23 (sp b p r t c s s8 s9 s10 s11 s12 .no s14 s15 s16 s17 s18) = .nx (sp b p r t c s s8 s9 s10 s11 s12 (.val (pl p r t)) s14 s15 s16 s17 s18) := by
  have h4 := D.t1; have h5 := D.t2
  have hl := D.ln
  have rl : (rowN p r t).length = Ln p r t := row_len
  have cp := c_planof (row := rowN p r t) (t := t) (by omega) (by omega) (by omega)
  rw [D.plan.1] at cp
  have cp : ∀ ρ, callD f_plan_of 2 [.v (.tuple ((rowN p r t).map .int)), .v (.int t)] ρ = .ok (.v (pl p r t)) ρ := cp
  simp only [sp]
  simp [p_law_planned_23, cp]
theorem planned_24 : p_law_planned_24 (sp b p r t c s s8 s9 s10 s11 s12 (.val (pl p r t)) s14 s15 s16 s17 s18) = .nx (sp b p r t c s s8 s9 s10 s11 s12 (.val (pl p r t)) s14 s15 s16 s17 s18) := by
  have h1 := D.p1; have h4 := D.t1; have h5 := D.t2
  have hl := D.ln
  have rl : (rowN p r t).length = Ln p r t := row_len
  have c4 := c_row (p := p) (r := r) (t := t) (by omega) (by omega) (by omega) (by omega)
  have cp := c_planof (row := rowN p r t ++ [0]) (t := t) (by omega) (by omega) (by rw [row_last]; omega)
  rw [D.plan.2, List.map_append] at cp
  have cp : ∀ ρ, callD f_plan_of 2 [.v (.tuple ((rowN p r t).map .int ++ [.int 0])), .v (.int t)] ρ = .ok (.v .none) ρ := cp
  have a1 : gIxA (pl p r t) (.int 1) = some (.int r) := rfl
  have a2 : gIxA (pl p r t) (.int 2) = some (.int t) := rfl
  have nn : isNo (pl p r t) = false := rfl
  have len : Ln p r t + 1 ≤ 16777216 := by omega
  simp only [sp]
  simp [p_law_planned_24, c4, a1, a2, nn, rl, len, cp]
theorem planned_25 (k : StOk b sc) : ∃ (b' : Box) (g : Nat), StOk b' sc ∧ g ≤ 3 ∧ p_law_planned_25 (sp b p r t c s s8 s9 s10 s11 s12 s13 .no s15 s16 s17 s18) = .nx (sp b' p r t c s s8 s9 s10 s11 s12 s13 (.val (.int g)) s15 s16 s17 s18) := by
  obtain ⟨b1, x1, k1, l1, u1, e1⟩ := c_draw k (n := 4) (by decide) (by decide)
  obtain ⟨p', hp⟩ : ∃ p : Nat, x1 = (p : Int) := ⟨(x1).toNat, by omega⟩
  refine ⟨b1, p', k1, by omega, ?_⟩
  simp only [sp]
  simp [p_law_planned_25, (e1 _).1, hp]
theorem planned_26 {g : Nat} (hg : g ≤ 3) : p_law_planned_26 (sp b p r t c s s8 s9 s10 s11 s12 s13 (.val (.int g)) s15 s16 s17 s18) = .nx (sp b p r t c s s8 s9 s10 s11 s12 s13 (.val (.int g)) s15 s16 s17 s18) := by
  have h1 := D.p1; have h4 := D.t1; have h5 := D.t2
  have hl := D.ln
  have rl : (rowN p r t).length = Ln p r t := row_len
  have c1 : ∀ ρ, callD f_nested 3 [.v (pl p r t), .v (.int g), .v (.int 3)] ρ = .ok (.v (.tuple ((rowN p r t ++ repG g ++ rowN p r t ++ repG g ++ rowN p r t).map .int))) ρ := fun ρ => callV3 (z_nested (by omega) (by omega) (by omega) (by omega) (by omega))
  have c2 : ∀ ρ, callD f_nested_length 3 [.v (pl p r t), .v (.int g), .v (.int 3)] ρ = .ok (.v (.int ((Ln p r t : Int) * 3 + g * 2))) ρ := fun ρ => callV3 (s_nestlen (by omega) (by omega))
  have gm : gMul (.tuple [.int 0]) (.int g) = some (.tuple (List.replicate g (PyData.int 0))) := by rw [gMul_n (by omega) (by simp; omega), rep1]
  have eg : (repG g).map PyData.int = List.replicate g (PyData.int 0) := by simp [repG]
  have m1 : mulOk 3 (Ln p r t : Int) = true := mO (by omega) (by omega)
  have m2 : mulOk 2 (g : Int) = true := mO (by omega) (by omega)
  have sh : SeqAt.shaped (.tuple ((rowN p r t ++ repG g ++ rowN p r t ++ repG g ++ rowN p r t).map .int)) = true := shaped_ti _
  have ne := gNe_same sh
  have l1 : Ln p r t + g ≤ 16777216 := by omega
  have l2 : Ln p r t + (g + Ln p r t) ≤ 16777216 := by omega
  have l3 : Ln p r t + (g + (Ln p r t + g)) ≤ 16777216 := by omega
  have l4 : Ln p r t + (g + (Ln p r t + (g + Ln p r t))) ≤ 16777216 := by omega
  have e3 : (3 : Int) * (Ln p r t : Int) + 2 * g = (Ln p r t : Int) * 3 + g * 2 := by omega
  simp only [List.map_append, List.append_assoc, eg] at c1 ne
  simp only [sp]
  simp [-gMul_ti, p_law_planned_26, c1, c2, gm, m1, m2, ne, rl, l1, l2, l3, l4, e3, Nat.add_assoc]
theorem planned_27 (k : StOk b sc) : ∃ (b' : Box) (st : Nat), StOk b' sc ∧ 1 ≤ st ∧ st ≤ 3 ∧ p_law_planned_27 (sp b p r t c s s8 s9 s10 s11 s12 s13 s14 .no s16 s17 s18) = .nx (sp b' p r t c s s8 s9 s10 s11 s12 s13 s14 (.val (.int st)) s16 s17 s18) := by
  obtain ⟨b1, x1, k1, l1, u1, e1⟩ := c_draw k (n := 3) (by decide) (by decide)
  obtain ⟨p', hp⟩ : ∃ p : Nat, 1 + x1 = (p : Int) := ⟨(1 + x1).toNat, by omega⟩
  refine ⟨b1, p', k1, by omega, by omega, ?_⟩
  simp only [sp]
  simp [p_law_planned_27, (e1 _).1, hp]
theorem planned_28 {st : Nat} (h0 : 1 ≤ st) : p_law_planned_28 (sp b p r t c s s8 s9 s10 s11 s12 s13 s14 (.val (.int st)) .no .no s18) = .nx (sp b p r t c s s8 s9 s10 s11 s12 s13 s14 (.val (.int st)) (.val (.tuple ((shrL 10 p st).map .int))) (.val (.int ((1 - wholeI (shrL 10 p st) r).fmod c))) s18) := by
  have h1 := D.p2; have h4 := D.r2; have h5 := D.c1
  have cs := c_shr (p := p) (st := st) (r := r) (c := c) (by omega) h0 (by omega) h5
  simp only [sp]
  simp [p_law_planned_28, cs]
theorem planned_29 {st : Nat} {s17 : SV} : p_law_planned_29 (sp b p r t c s s8 s9 s10 s11 s12 s13 s14 s15 (.val (.tuple ((shrL 10 p st).map .int))) s17 .no) = .nx (sp b p r t c s s8 s9 s10 s11 s12 s13 s14 s15 (.val (.tuple ((shrL 10 p st).map .int))) s17 (.val (.int (wholeI (shrL 10 p st) r)))) := by
  have len := shr_len 10 (p : Int) (st : Int)
  generalize shrL 10 (p : Int) (st : Int) = l at *
  have mo : mulOk (r : Int) ((l.length : Int) - 1) = true := mO (by omega) (by omega)
  simp only [sp]
  simp [p_law_planned_29, mo, wholeI]
theorem planned_30 {st : Nat} (h0 : 1 ≤ st) (h3 : st ≤ 3) : p_law_planned_30 (sp b p r t c s s8 s9 s10 s11 s12 s13 s14 (.val (.int st)) (.val (.tuple ((shrL 10 p st).map .int))) (.val (.int ((1 - wholeI (shrL 10 p st) r).fmod c))) (.val (.int (wholeI (shrL 10 p st) r)))) = .rt (.bool true) (sp b p r t c s s8 s9 s10 s11 s12 s13 s14 (.val (.int st)) (.val (.tuple ((shrL 10 p st).map .int))) (.val (.int ((1 - wholeI (shrL 10 p st) r).fmod c))) (.val (.int (wholeI (shrL 10 p st) r)))) := by
  have h1 := D.p1; have h2 := D.p2; have h6 := D.c1
  have hc' : ¬ c = 0 := by omega
  have fs := shr_is0 (p - 1) (by omega) (st - 1) (by omega)
  rw [show p - 1 + 1 = p by omega, show st - 1 + 1 = st by omega] at fs
  have mo : ∀ i : Int, mulOk i (st : Int) = true := fun i => mO (by omega) (by omega)
  have er : itR1 [.int (p : Int)] = some ((List.range p).map fun i : Nat => PyData.int (i : Int)) := by
    rw [r1_small (by omega) (by omega), rangeD0, show (p : Int).toNat = p by omega]
  have z : ((1 - wholeI (shrL 10 p st) r).fmod c + wholeI (shrL 10 p st) r - 1).fmod c = 0 := by
    generalize wholeI (shrL 10 p st) r = L
    rw [Int.fmod_eq_emod_of_nonneg _ (by omega), Int.fmod_eq_emod_of_nonneg _ (by omega)]
    rw [show (1 - L) % (c : Int) + L - 1 = (1 - L) % (c : Int) + (L - 1) by omega, Int.emod_add_emod]
    rw [show 1 - L + (L - 1) = 0 by omega]
    simp
  have l := lc_map (own := [22]) (t := gN 22) (mt := (mB (mOp2 gGt (mOp2 gSub (mVar 1) (mOp2 gMul (mVar 22) (mVar 15))) (mConst (.int 0))))) (me := mFrz (mOp2 gSub (mVar 1) (mOp2 gMul (mVar 22) (mVar 15)))) (ρ := sp b p r t c s s8 s9 s10 s11 s12 s13 s14 (.val (.int st)) (.val (.tuple ((shrL 10 p st).map .int))) (.val (.int ((1 - wholeI (shrL 10 p st) r).fmod c))) (.val (.int (wholeI (shrL 10 p st) r)))) (fun i : Nat => PyData.int (i : Int)) (fun i : Nat => if (0 : Int) < (p : Int) - (i : Int) * (st : Int) then some (.int ((p : Int) - (i : Int) * (st : Int))) else none) (List.range p) fun i _ => by
    by_cases q : (0 : Int) < (p : Int) - (i : Int) * (st : Int)
    · simp only [lcStep, wipeR, unwipe, sp]
      simp [-Int.sub_pos, mo, q]
    · simp only [lcStep, wipeR, unwipe, sp]
      simp [-Int.sub_pos, mo, q]
  rw [fm_ints, ← fs] at l
  generalize (1 - wholeI (shrL 10 p st) r).fmod c = z1 at *
  generalize wholeI (shrL 10 p st) r = z2 at *
  generalize hr : List.range p = R at *
  have len : R.length ≤ 16777216 := by rw [← hr]; simp; omega
  simp only [sp] at l ⊢
  simp [-Int.sub_pos, p_law_planned_30, er, len, l, z, hc']
end
theorem law_planned {b : Box} {sc : List Int} (k : StOk b sc) : ∃ b', StOk b' sc ∧ ansIo (f__law_planned [.iol b]) = some (.bool true, .iol b') := by
  obtain ⟨b1, p, r, t, c, s, k1, D, e1⟩ := planned_a k
  obtain ⟨b2, cy, k2, y1, y2, e2⟩ := planned_19 D k1 (s8 := (.val (.list ((restsL p t c s 26).map .int)))) (s9 := (.val (firstD (restsL p t c s (c + 1))))) (s10 := (.val (.list ((restsL p t c s (c + 1)).map .int)))) (s12 := .no) (s13 := .no) (s14 := .no) (s15 := .no) (s16 := .no) (s17 := .no) (s18 := .no)
  obtain ⟨b3, g, k3, g1, e3⟩ := planned_25 D k2 (s8 := (.val (.list ((restsL p t c s 26).map .int)))) (s9 := (.val (firstD (restsL p t c s (c + 1))))) (s10 := (.val (.list ((restsL p t c s (c + 1)).map .int)))) (s11 := .val (.int cy)) (s12 := (.val (.list ((fillL (c * cy + 1) t).map (fillP (c * cy + 1) t))))) (s13 := .val (pl p r t)) (s15 := .no) (s16 := .no) (s17 := .no) (s18 := .no)
  obtain ⟨b4, st, k4, t1, t2, e4⟩ := planned_27 D k3 (s8 := (.val (.list ((restsL p t c s 26).map .int)))) (s9 := (.val (firstD (restsL p t c s (c + 1))))) (s10 := (.val (.list ((restsL p t c s (c + 1)).map .int)))) (s11 := .val (.int cy)) (s12 := (.val (.list ((fillL (c * cy + 1) t).map (fillP (c * cy + 1) t))))) (s13 := .val (pl p r t)) (s14 := .val (.int g)) (s16 := .no) (s17 := .no) (s18 := .no)
  refine ⟨b4, k4, ?_⟩
  unfold f__law_planned fnM
  rw [p_law_planned_is]
  show ansIo (p_law_planned [.iol b, .no, .no, .no, .no, .no, .no, .no, .no, .no, .no, .no, .no, .no, .no, .no, .no, .no, .no, .no, .no, .no, .no]) = _
  unfold p_law_planned
  rw [e1]
  rw [sSeq_run, planned_7 D]; dsimp only
  rw [sSeq_run, planned_8 D]; dsimp only
  rw [sSeq_run, planned_9 D]; dsimp only
  rw [sSeq_run, planned_10 D]; dsimp only
  rw [sSeq_run, planned_11 D]; dsimp only
  rw [sSeq_run, planned_12 D]; dsimp only
  rw [sSeq_run, planned_13 D]; dsimp only
  rw [sSeq_run, planned_14 D]; dsimp only
  rw [sSeq_run, planned_15 D]; dsimp only
  rw [sSeq_run, planned_16 D]; dsimp only
  rw [sSeq_run, planned_17 D]; dsimp only
  rw [sSeq_run, planned_18 D]; dsimp only
  rw [sSeq_run, e2]; dsimp only
  rw [sSeq_run, planned_20 D y2]; dsimp only
  rw [sSeq_run, planned_21 D y2]; dsimp only
  rw [sSeq_run, planned_22 D y1 y2]; dsimp only
  rw [sSeq_run, planned_23 D]; dsimp only
  rw [sSeq_run, planned_24 D]; dsimp only
  rw [sSeq_run, e3]; dsimp only
  rw [sSeq_run, planned_26 D g1]; dsimp only
  rw [sSeq_run, e4]; dsimp only
  rw [sSeq_run, planned_28 D t1]; dsimp only
  rw [sSeq_run, planned_29 D]; dsimp only
  rw [planned_30 D t1 t2]
  rfl
end K20

set_option Elab.async false
set_option linter.all false
set_option autoImplicit false
set_option maxRecDepth 100000
set_option maxHeartbeats 2000000
namespace K20
open PySem PySem.Spec PyProof.Rows L2 VL
theorem law_true : ∀ ns : List Int, ns.length ≤ 63 → ∃ ρ', f_law [.val (scriptD ns)] = .rt (.bool true) ρ' := fun ns hn => by
  have k0 : StOk (stD 0 0 ns 1) ns := ⟨0, 1, 0, rfl⟩
  obtain ⟨b1, hs, k1, hl, e1⟩ := s_melody k0
  obtain ⟨b2, k2, e2⟩ := law_sung k1 hl
  obtain ⟨b3, k3, e3⟩ := law_hand k2
  obtain ⟨b4, k4, e4⟩ := law_planned k3
  have c1 := call_io (f := f__law_melody) (n := 1) (i := 1) (rs := []) (ρ := [.val (scriptD ns), .lst (stD 0 0 ns 1)]) (args := []) (s := .lst (stD 0 0 ns 1)) (b := stD 0 0 ns 1) (b' := b1) rfl rfl rfl rfl rfl e1 fun _ _ => rfl
  have c2 := call_io (f := f__law_sung) (n := 2) (i := 1) (rs := [.v (.tuple (hs.map .int))]) (ρ := [.val (scriptD ns), .lst b1]) (args := [.val (.tuple (hs.map .int))]) (s := .lst b1) (b := b1) (b' := b2) rfl rfl rfl rfl rfl e2 fun _ _ => rfl
  have c3 := call_io (f := f__law_hand) (n := 1) (i := 1) (rs := []) (ρ := [.val (scriptD ns), .lst b2]) (args := []) (s := .lst b2) (b := b2) (b' := b3) rfl rfl rfl rfl rfl e3 fun _ _ => rfl
  have c4 := call_io (f := f__law_planned) (n := 1) (i := 1) (rs := []) (ρ := [.val (scriptD ns), .lst b3]) (args := []) (s := .lst b3) (b := b3) (b' := b4) rfl rfl rfl rfl rfl e4 fun _ _ => rfl
  have hgl : gList [scriptD ns] = some (ns.map .int) := rfl
  have hst : stD 0 0 ns 1 = .li [.int 0, .int 0, .list (ns.map .int), .int 1] := rfl
  rw [hst] at c1
  refine ⟨[.val (scriptD ns), .lst b4], ?_⟩
  simp at c1 c2 c3 c4
  simp [f_law, fnM, m_law, List.replicate, hgl, c1, c2, c3, c4]
end K20

set_option Elab.async false
set_option linter.all false
set_option autoImplicit false
set_option maxRecDepth 100000
set_option maxHeartbeats 0
namespace K20
open PySem PySem.Spec PyProof.Rows L2 VL
def d_is_integer : He.DefD := ⟨("is_integer", none), "is_integer", "is_integer", defArgs s_is_integer, defBody s_is_integer, defScope s_is_integer, [], []⟩
def d_bases_between : He.DefD := ⟨("bases_between", none), "bases_between", "bases_between", defArgs s_bases_between, defBody s_bases_between, defScope s_bases_between, [], []⟩
def d_all_bases : He.DefD := ⟨("all_bases", none), "all_bases", "all_bases", defArgs s_all_bases, defBody s_all_bases, defScope s_all_bases, [], []⟩
def d_tones_of : He.DefD := ⟨("tones_of", none), "tones_of", "tones_of", defArgs s_tones_of, defBody s_tones_of, defScope s_tones_of, [], []⟩
def d_syllable_of : He.DefD := ⟨("syllable_of", none), "syllable_of", "syllable_of", defArgs s_syllable_of, defBody s_syllable_of, defScope s_syllable_of, [], []⟩
def d_names_of : He.DefD := ⟨("names_of", none), "names_of", "names_of", defArgs s_names_of, defBody s_names_of, defScope s_names_of, [], []⟩
def d_is_in_hand : He.DefD := ⟨("is_in_hand", none), "is_in_hand", "is_in_hand", defArgs s_is_in_hand, defBody s_is_in_hand, defScope s_is_in_hand, [], []⟩
def d_fewest_changes : He.DefD := ⟨("fewest_changes", none), "fewest_changes", "fewest_changes", defArgs s_fewest_changes, defBody s_fewest_changes, defScope s_fewest_changes, [], []⟩
def d_sung : He.DefD := ⟨("sung", none), "sung", "sung", defArgs s_sung, defBody s_sung, defScope s_sung, [], []⟩
def d_changes_at : He.DefD := ⟨("changes_at", none), "changes_at", "changes_at", defArgs s_changes_at, defBody s_changes_at, defScope s_changes_at, [], []⟩
def d_judge_sung : He.DefD := ⟨("judge_sung", none), "judge_sung", "judge_sung", defArgs s_judge_sung, defBody s_judge_sung, defScope s_judge_sung, [], []⟩
def d_kind_of : He.DefD := ⟨("kind_of", none), "kind_of", "kind_of", defArgs s_kind_of, defBody s_kind_of, defScope s_kind_of, [], []⟩
def d_shared_by : He.DefD := ⟨("shared_by", none), "shared_by", "shared_by", defArgs s_shared_by, defBody s_shared_by, defScope s_shared_by, [], []⟩
def d_heights_sung : He.DefD := ⟨("heights_sung", none), "heights_sung", "heights_sung", defArgs s_heights_sung, defBody s_heights_sung, defScope s_heights_sung, [], []⟩
def d_is_plan : He.DefD := ⟨("is_plan", none), "is_plan", "is_plan", defArgs s_is_plan, defBody s_is_plan, defScope s_is_plan, [], []⟩
def d_length_of : He.DefD := ⟨("length_of", none), "length_of", "length_of", defArgs s_length_of, defBody s_length_of, defScope s_length_of, [], []⟩
def d_end_from : He.DefD := ⟨("end_from", none), "end_from", "end_from", defArgs s_end_from, defBody s_end_from, defScope s_end_from, [], []⟩
def d_start_for : He.DefD := ⟨("start_for", none), "start_for", "start_for", defArgs s_start_for, defBody s_start_for, defScope s_start_for, [], []⟩
def d_cycles_of : He.DefD := ⟨("cycles_of", none), "cycles_of", "cycles_of", defArgs s_cycles_of, defBody s_cycles_of, defScope s_cycles_of, [], []⟩
def d_rests_for : He.DefD := ⟨("rests_for", none), "rests_for", "rests_for", defArgs s_rests_for, defBody s_rests_for, defScope s_rests_for, [], []⟩
def d_phrases_for : He.DefD := ⟨("phrases_for", none), "phrases_for", "phrases_for", defArgs s_phrases_for, defBody s_phrases_for, defScope s_phrases_for, [], []⟩
def d_plans_filling : He.DefD := ⟨("plans_filling", none), "plans_filling", "plans_filling", defArgs s_plans_filling, defBody s_plans_filling, defScope s_plans_filling, [], []⟩
def d_strokes_at : He.DefD := ⟨("strokes_at", none), "strokes_at", "strokes_at", defArgs s_strokes_at, defBody s_strokes_at, defScope s_strokes_at, [], []⟩
def d_is_sounding : He.DefD := ⟨("is_sounding", none), "is_sounding", "is_sounding", defArgs s_is_sounding, defBody s_is_sounding, defScope s_is_sounding, [], []⟩
def d_row_of : He.DefD := ⟨("row_of", none), "row_of", "row_of", defArgs s_row_of, defBody s_row_of, defScope s_row_of, [], []⟩
def d_nested : He.DefD := ⟨("nested", none), "nested", "nested", defArgs s_nested, defBody s_nested, defScope s_nested, [], []⟩
def d_nested_length : He.DefD := ⟨("nested_length", none), "nested_length", "nested_length", defArgs s_nested_length, defBody s_nested_length, defScope s_nested_length, [], []⟩
def d_plan_of : He.DefD := ⟨("plan_of", none), "plan_of", "plan_of", defArgs s_plan_of, defBody s_plan_of, defScope s_plan_of, [], []⟩
def d_shrinking : He.DefD := ⟨("shrinking", none), "shrinking", "shrinking", defArgs s_shrinking, defBody s_shrinking, defScope s_shrinking, [], []⟩
def d_first_rest : He.DefD := ⟨("first_rest", none), "first_rest", "first_rest", defArgs s_first_rest, defBody s_first_rest, defScope s_first_rest, [], []⟩
def d__law_draw : He.DefD := ⟨("_law_draw", none), "_law_draw", "_law_draw", defArgs s__law_draw, defBody s__law_draw, defScope s__law_draw, [], []⟩
def d__law_same : He.DefD := ⟨("_law_same", none), "_law_same", "_law_same", defArgs s__law_same, defBody s__law_same, defScope s__law_same, [], []⟩
def d__law_melody : He.DefD := ⟨("_law_melody", none), "_law_melody", "_law_melody", defArgs s__law_melody, defBody s__law_melody, defScope s__law_melody, [], []⟩
def d__law_sung : He.DefD := ⟨("_law_sung", none), "_law_sung", "_law_sung", defArgs s__law_sung, defBody s__law_sung, defScope s__law_sung, [], []⟩
def d__law_hand : He.DefD := ⟨("_law_hand", none), "_law_hand", "_law_hand", defArgs s__law_hand, defBody s__law_hand, defScope s__law_hand, [], []⟩
def d__law_sounding : He.DefD := ⟨("_law_sounding", none), "_law_sounding", "_law_sounding", defArgs s__law_sounding, defBody s__law_sounding, defScope s__law_sounding, [], []⟩
def d__law_planned : He.DefD := ⟨("_law_planned", none), "_law_planned", "_law_planned", defArgs s__law_planned, defBody s__law_planned, defScope s__law_planned, [], []⟩
def d_law : He.DefD := ⟨("law", none), "law", "law", defArgs s_law, defBody s_law, defScope s_law, [], []⟩
def fn : List He.DefD := [d_is_integer, d_bases_between, d_all_bases, d_tones_of, d_syllable_of, d_names_of, d_is_in_hand, d_fewest_changes, d_sung, d_changes_at, d_judge_sung, d_kind_of, d_shared_by, d_heights_sung, d_is_plan, d_length_of, d_end_from, d_start_for, d_cycles_of, d_rests_for, d_phrases_for, d_plans_filling, d_strokes_at, d_is_sounding, d_row_of, d_nested, d_nested_length, d_plan_of, d_shrinking, d_first_rest, d__law_draw, d__law_same, d__law_melody, d__law_sung, d__law_hand, d__law_sounding, d__law_planned, d_law]
def fa : List He.Fa := [.glo "is_integer", .glo "bases_between", .glo "all_bases", .glo "tones_of", .glo "syllable_of", .glo "names_of", .glo "is_in_hand", .glo "fewest_changes", .glo "sung", .glo "changes_at", .glo "judge_sung", .glo "kind_of", .glo "shared_by", .glo "heights_sung", .glo "is_plan", .glo "length_of", .glo "end_from", .glo "start_for", .glo "cycles_of", .glo "rests_for", .glo "phrases_for", .glo "plans_filling", .glo "strokes_at", .glo "is_sounding", .glo "row_of", .glo "nested", .glo "nested_length", .glo "plan_of", .glo "shrinking", .glo "first_rest", .glo "_law_draw", .glo "_law_same", .glo "_law_melody", .glo "_law_sung", .glo "_law_hand", .glo "_law_sounding", .glo "_law_planned", .glo "law", .free "any", .free "bool", .free "enumerate", .free "int", .free "isinstance", .free "len", .free "list", .free "min", .free "range", .free "sum", .free "tuple", .free "zip", .glo "NoSuch", .exc "NoSuch", .exm "NoSuch" "NoSuch" true]
def dc : List (Str × PyData) := [("SYLLABLES", .tuple [.str "ut", .str "re", .str "mi", .str "fa", .str "sol", .str "la"]), ("HEIGHTS", .tuple [.int 0, .int 2, .int 4, .int 5, .int 7, .int 9]), ("BASES", .tuple [.int 0, .int 5, .int 7]), ("LOWEST", .int (-5)), ("HIGHEST", .int 16), ("MOST_TIMES", .int 9)]
abbrev R : PySem.W.OpenRow := PySem.W.OpenLaw.row PySem.Challenge.rw_allsounded_k20_syllables_sung_and_phrase
abbrev hk : PySem.W.Hook := hookV 4 fa fn dc
def ob (s : PySem.W.SharedT) : AlV := obsVG 4 fa fn dc (HandSHeadRun.getT s)
theorem ob_eq (s : PySem.W.SharedT) : ob s = hk.obs s.abs := obsVG_eq (HandSHeadRun.getT_eq s)
def loose : List Str := [Str.ofString "AllsoundedError", Str.ofString "NoSuch", Str.ofString "is_integer", Str.ofString "SYLLABLES", Str.ofString "HEIGHTS", Str.ofString "BASES", Str.ofString "LOWEST", Str.ofString "HIGHEST", Str.ofString "bases_between", Str.ofString "all_bases", Str.ofString "tones_of", Str.ofString "syllable_of", Str.ofString "names_of", Str.ofString "is_in_hand", Str.ofString "fewest_changes", Str.ofString "sung", Str.ofString "changes_at", Str.ofString "judge_sung", Str.ofString "kind_of", Str.ofString "shared_by"] ++ [Str.ofString "heights_sung", Str.ofString "MOST_TIMES", Str.ofString "is_plan", Str.ofString "length_of", Str.ofString "end_from", Str.ofString "start_for", Str.ofString "cycles_of", Str.ofString "rests_for", Str.ofString "phrases_for", Str.ofString "plans_filling", Str.ofString "strokes_at", Str.ofString "is_sounding", Str.ofString "row_of", Str.ofString "nested", Str.ofString "nested_length", Str.ofString "plan_of", Str.ofString "shrinking", Str.ofString "first_rest", Str.ofString "_law_draw", Str.ofString "_law_same"] ++ [Str.ofString "_law_melody", Str.ofString "_law_sung", Str.ofString "_law_hand", Str.ofString "_law_sounding", Str.ofString "_law_planned"]
theorem run (w : World) : HandSHeadRun.RunEq R (PySem.W.view R.prog [50]) hk ob 4000 loose w := by
  intro os
  kernel_rfl
theorem top_of {K : PySem.W.Frag} {h : Heap} {mg : Str → Option Value} (X : K.In h) (G : h.Ns mainGlobals mg) (c : SaysV fa fn dc K) : ∃ T : Top K mg, T.a_law = He.fAd K ("law", none) := by
  obtain ⟨fd0, F0⟩ := c.def_ 0 (d := d_is_integer) rfl
  obtain ⟨fd1, F1⟩ := c.def_ 1 (d := d_bases_between) rfl
  obtain ⟨fd2, F2⟩ := c.def_ 2 (d := d_all_bases) rfl
  obtain ⟨fd3, F3⟩ := c.def_ 3 (d := d_tones_of) rfl
  obtain ⟨fd4, F4⟩ := c.def_ 4 (d := d_syllable_of) rfl
  obtain ⟨fd5, F5⟩ := c.def_ 5 (d := d_names_of) rfl
  obtain ⟨fd6, F6⟩ := c.def_ 6 (d := d_is_in_hand) rfl
  obtain ⟨fd7, F7⟩ := c.def_ 7 (d := d_fewest_changes) rfl
  obtain ⟨fd8, F8⟩ := c.def_ 8 (d := d_sung) rfl
  obtain ⟨fd9, F9⟩ := c.def_ 9 (d := d_changes_at) rfl
  obtain ⟨fd10, F10⟩ := c.def_ 10 (d := d_judge_sung) rfl
  obtain ⟨fd11, F11⟩ := c.def_ 11 (d := d_kind_of) rfl
  obtain ⟨fd12, F12⟩ := c.def_ 12 (d := d_shared_by) rfl
  obtain ⟨fd13, F13⟩ := c.def_ 13 (d := d_heights_sung) rfl
  obtain ⟨fd14, F14⟩ := c.def_ 14 (d := d_is_plan) rfl
  obtain ⟨fd15, F15⟩ := c.def_ 15 (d := d_length_of) rfl
  obtain ⟨fd16, F16⟩ := c.def_ 16 (d := d_end_from) rfl
  obtain ⟨fd17, F17⟩ := c.def_ 17 (d := d_start_for) rfl
  obtain ⟨fd18, F18⟩ := c.def_ 18 (d := d_cycles_of) rfl
  obtain ⟨fd19, F19⟩ := c.def_ 19 (d := d_rests_for) rfl
  obtain ⟨fd20, F20⟩ := c.def_ 20 (d := d_phrases_for) rfl
  obtain ⟨fd21, F21⟩ := c.def_ 21 (d := d_plans_filling) rfl
  obtain ⟨fd22, F22⟩ := c.def_ 22 (d := d_strokes_at) rfl
  obtain ⟨fd23, F23⟩ := c.def_ 23 (d := d_is_sounding) rfl
  obtain ⟨fd24, F24⟩ := c.def_ 24 (d := d_row_of) rfl
  obtain ⟨fd25, F25⟩ := c.def_ 25 (d := d_nested) rfl
  obtain ⟨fd26, F26⟩ := c.def_ 26 (d := d_nested_length) rfl
  obtain ⟨fd27, F27⟩ := c.def_ 27 (d := d_plan_of) rfl
  obtain ⟨fd28, F28⟩ := c.def_ 28 (d := d_shrinking) rfl
  obtain ⟨fd29, F29⟩ := c.def_ 29 (d := d_first_rest) rfl
  obtain ⟨fd30, F30⟩ := c.def_ 30 (d := d__law_draw) rfl
  obtain ⟨fd31, F31⟩ := c.def_ 31 (d := d__law_same) rfl
  obtain ⟨fd32, F32⟩ := c.def_ 32 (d := d__law_melody) rfl
  obtain ⟨fd33, F33⟩ := c.def_ 33 (d := d__law_sung) rfl
  obtain ⟨fd34, F34⟩ := c.def_ 34 (d := d__law_hand) rfl
  obtain ⟨fd35, F35⟩ := c.def_ 35 (d := d__law_sounding) rfl
  obtain ⟨fd36, F36⟩ := c.def_ 36 (d := d__law_planned) rfl
  obtain ⟨fd37, F37⟩ := c.def_ 37 (d := d_law) rfl
  exact ⟨{
    a_is_integer := _, fd_is_integer := fd0, F_is_integer := F0, g_is_integer := He.glo_ok X G (c.fact 0 (f := .glo "is_integer") rfl), k_is_integer := F0.kp, b_is_integer := F0.bindsN fun _ _ _ _ _ _ us hl => match us, hl with | [_, _, _], _ => rfl
    a_bases_between := _, fd_bases_between := fd1, F_bases_between := F1, g_bases_between := He.glo_ok X G (c.fact 1 (f := .glo "bases_between") rfl), k_bases_between := F1.kp, b_bases_between := F1.bindsN fun _ _ _ _ _ _ us hl => match us, hl with | [_, _], _ => rfl
    a_all_bases := _, fd_all_bases := fd2, F_all_bases := F2, g_all_bases := He.glo_ok X G (c.fact 2 (f := .glo "all_bases") rfl), k_all_bases := F2.kp, b_all_bases := F2.bindsN fun _ _ _ _ _ _ us hl => match us, hl with | [], _ => rfl
    a_tones_of := _, fd_tones_of := fd3, F_tones_of := F3, g_tones_of := He.glo_ok X G (c.fact 3 (f := .glo "tones_of") rfl), k_tones_of := F3.kp, b_tones_of := F3.bindsN fun _ _ _ _ _ _ us hl => match us, hl with | [_], _ => rfl
    a_syllable_of := _, fd_syllable_of := fd4, F_syllable_of := F4, g_syllable_of := He.glo_ok X G (c.fact 4 (f := .glo "syllable_of") rfl), k_syllable_of := F4.kp, b_syllable_of := F4.bindsN fun _ _ _ _ _ _ us hl => match us, hl with | [_, _], _ => rfl
    a_names_of := _, fd_names_of := fd5, F_names_of := F5, g_names_of := He.glo_ok X G (c.fact 5 (f := .glo "names_of") rfl), k_names_of := F5.kp, b_names_of := F5.bindsN fun _ _ _ _ _ _ us hl => match us, hl with | [_], _ => rfl
    a_is_in_hand := _, fd_is_in_hand := fd6, F_is_in_hand := F6, g_is_in_hand := He.glo_ok X G (c.fact 6 (f := .glo "is_in_hand") rfl), k_is_in_hand := F6.kp, b_is_in_hand := F6.bindsN fun _ _ _ _ _ _ us hl => match us, hl with | [_], _ => rfl
    a_fewest_changes := _, fd_fewest_changes := fd7, F_fewest_changes := F7, g_fewest_changes := He.glo_ok X G (c.fact 7 (f := .glo "fewest_changes") rfl), k_fewest_changes := F7.kp, b_fewest_changes := F7.bindsN fun _ _ _ _ _ _ us hl => match us, hl with | [_], _ => rfl
    a_sung := _, fd_sung := fd8, F_sung := F8, g_sung := He.glo_ok X G (c.fact 8 (f := .glo "sung") rfl), k_sung := F8.kp, b_sung := F8.bindsN fun _ _ _ _ _ _ us hl => match us, hl with | [_], _ => rfl
    a_changes_at := _, fd_changes_at := fd9, F_changes_at := F9, g_changes_at := He.glo_ok X G (c.fact 9 (f := .glo "changes_at") rfl), k_changes_at := F9.kp, b_changes_at := F9.bindsN fun _ _ _ _ _ _ us hl => match us, hl with | [_], _ => rfl
    a_judge_sung := _, fd_judge_sung := fd10, F_judge_sung := F10, g_judge_sung := He.glo_ok X G (c.fact 10 (f := .glo "judge_sung") rfl), k_judge_sung := F10.kp, b_judge_sung := F10.bindsN fun _ _ _ _ _ _ us hl => match us, hl with | [_, _], _ => rfl
    a_kind_of := _, fd_kind_of := fd11, F_kind_of := F11, g_kind_of := He.glo_ok X G (c.fact 11 (f := .glo "kind_of") rfl), k_kind_of := F11.kp, b_kind_of := F11.bindsN fun _ _ _ _ _ _ us hl => match us, hl with | [_], _ => rfl
    a_shared_by := _, fd_shared_by := fd12, F_shared_by := F12, g_shared_by := He.glo_ok X G (c.fact 12 (f := .glo "shared_by") rfl), k_shared_by := F12.kp, b_shared_by := F12.bindsN fun _ _ _ _ _ _ us hl => match us, hl with | [_, _], _ => rfl
    a_heights_sung := _, fd_heights_sung := fd13, F_heights_sung := F13, g_heights_sung := He.glo_ok X G (c.fact 13 (f := .glo "heights_sung") rfl), k_heights_sung := F13.kp, b_heights_sung := F13.bindsN fun _ _ _ _ _ _ us hl => match us, hl with | [_, _], _ => rfl
    a_is_plan := _, fd_is_plan := fd14, F_is_plan := F14, g_is_plan := He.glo_ok X G (c.fact 14 (f := .glo "is_plan") rfl), k_is_plan := F14.kp, b_is_plan := F14.bindsN fun _ _ _ _ _ _ us hl => match us, hl with | [_], _ => rfl
    a_length_of := _, fd_length_of := fd15, F_length_of := F15, g_length_of := He.glo_ok X G (c.fact 15 (f := .glo "length_of") rfl), k_length_of := F15.kp, b_length_of := F15.bindsN fun _ _ _ _ _ _ us hl => match us, hl with | [_], _ => rfl
    a_end_from := _, fd_end_from := fd16, F_end_from := F16, g_end_from := He.glo_ok X G (c.fact 16 (f := .glo "end_from") rfl), k_end_from := F16.kp, b_end_from := F16.bindsN fun _ _ _ _ _ _ us hl => match us, hl with | [_, _, _], _ => rfl
    a_start_for := _, fd_start_for := fd17, F_start_for := F17, g_start_for := He.glo_ok X G (c.fact 17 (f := .glo "start_for") rfl), k_start_for := F17.kp, b_start_for := F17.bindsN fun _ _ _ _ _ _ us hl => match us, hl with | [_, _], _ => rfl
    a_cycles_of := _, fd_cycles_of := fd18, F_cycles_of := F18, g_cycles_of := He.glo_ok X G (c.fact 18 (f := .glo "cycles_of") rfl), k_cycles_of := F18.kp, b_cycles_of := F18.bindsN fun _ _ _ _ _ _ us hl => match us, hl with | [_, _], _ => rfl
    a_rests_for := _, fd_rests_for := fd19, F_rests_for := F19, g_rests_for := He.glo_ok X G (c.fact 19 (f := .glo "rests_for") rfl), k_rests_for := F19.kp, b_rests_for := F19.bindsN fun _ _ _ _ _ _ us hl => match us, hl with | [_, _, _, _, _], _ => rfl
    a_phrases_for := _, fd_phrases_for := fd20, F_phrases_for := F20, g_phrases_for := He.glo_ok X G (c.fact 20 (f := .glo "phrases_for") rfl), k_phrases_for := F20.kp, b_phrases_for := F20.bindsN fun _ _ _ _ _ _ us hl => match us, hl with | [_, _, _, _, _], _ => rfl
    a_plans_filling := _, fd_plans_filling := fd21, F_plans_filling := F21, g_plans_filling := He.glo_ok X G (c.fact 21 (f := .glo "plans_filling") rfl), k_plans_filling := F21.kp, b_plans_filling := F21.bindsN fun _ _ _ _ _ _ us hl => match us, hl with | [_, _, _], _ => rfl
    a_strokes_at := _, fd_strokes_at := fd22, F_strokes_at := F22, g_strokes_at := He.glo_ok X G (c.fact 22 (f := .glo "strokes_at") rfl), k_strokes_at := F22.kp, b_strokes_at := F22.bindsN fun _ _ _ _ _ _ us hl => match us, hl with | [_, _, _], _ => rfl
    a_is_sounding := _, fd_is_sounding := fd23, F_is_sounding := F23, g_is_sounding := He.glo_ok X G (c.fact 23 (f := .glo "is_sounding") rfl), k_is_sounding := F23.kp, b_is_sounding := F23.bindsN fun _ _ _ _ _ _ us hl => match us, hl with | [_, _], _ => rfl
    a_row_of := _, fd_row_of := fd24, F_row_of := F24, g_row_of := He.glo_ok X G (c.fact 24 (f := .glo "row_of") rfl), k_row_of := F24.kp, b_row_of := F24.bindsN fun _ _ _ _ _ _ us hl => match us, hl with | [_], _ => rfl
    a_nested := _, fd_nested := fd25, F_nested := F25, g_nested := He.glo_ok X G (c.fact 25 (f := .glo "nested") rfl), k_nested := F25.kp, b_nested := F25.bindsN fun _ _ _ _ _ _ us hl => match us, hl with | [_, _, _], _ => rfl
    a_nested_length := _, fd_nested_length := fd26, F_nested_length := F26, g_nested_length := He.glo_ok X G (c.fact 26 (f := .glo "nested_length") rfl), k_nested_length := F26.kp, b_nested_length := F26.bindsN fun _ _ _ _ _ _ us hl => match us, hl with | [_, _, _], _ => rfl
    a_plan_of := _, fd_plan_of := fd27, F_plan_of := F27, g_plan_of := He.glo_ok X G (c.fact 27 (f := .glo "plan_of") rfl), k_plan_of := F27.kp, b_plan_of := F27.bindsN fun _ _ _ _ _ _ us hl => match us, hl with | [_, _], _ => rfl
    a_shrinking := _, fd_shrinking := fd28, F_shrinking := F28, g_shrinking := He.glo_ok X G (c.fact 28 (f := .glo "shrinking") rfl), k_shrinking := F28.kp, b_shrinking := F28.bindsN fun _ _ _ _ _ _ us hl => match us, hl with | [_, _, _, _], _ => rfl
    a_first_rest := _, fd_first_rest := fd29, F_first_rest := F29, g_first_rest := He.glo_ok X G (c.fact 29 (f := .glo "first_rest") rfl), k_first_rest := F29.kp, b_first_rest := F29.bindsN fun _ _ _ _ _ _ us hl => match us, hl with | [_, _, _, _], _ => rfl
    a__law_draw := _, fd__law_draw := fd30, F__law_draw := F30, g__law_draw := He.glo_ok X G (c.fact 30 (f := .glo "_law_draw") rfl), k__law_draw := F30.kp, b__law_draw := F30.bindsN fun _ _ _ _ _ _ us hl => match us, hl with | [_, _], _ => rfl
    a__law_same := _, fd__law_same := fd31, F__law_same := F31, g__law_same := He.glo_ok X G (c.fact 31 (f := .glo "_law_same") rfl), k__law_same := F31.kp, b__law_same := F31.bindsN fun _ _ _ _ _ _ us hl => match us, hl with | [_, _], _ => rfl
    a__law_melody := _, fd__law_melody := fd32, F__law_melody := F32, g__law_melody := He.glo_ok X G (c.fact 32 (f := .glo "_law_melody") rfl), k__law_melody := F32.kp, b__law_melody := F32.bindsN fun _ _ _ _ _ _ us hl => match us, hl with | [_], _ => rfl
    a__law_sung := _, fd__law_sung := fd33, F__law_sung := F33, g__law_sung := He.glo_ok X G (c.fact 33 (f := .glo "_law_sung") rfl), k__law_sung := F33.kp, b__law_sung := F33.bindsN fun _ _ _ _ _ _ us hl => match us, hl with | [_, _], _ => rfl
    a__law_hand := _, fd__law_hand := fd34, F__law_hand := F34, g__law_hand := He.glo_ok X G (c.fact 34 (f := .glo "_law_hand") rfl), k__law_hand := F34.kp, b__law_hand := F34.bindsN fun _ _ _ _ _ _ us hl => match us, hl with | [_], _ => rfl
    a__law_sounding := _, fd__law_sounding := fd35, F__law_sounding := F35, g__law_sounding := He.glo_ok X G (c.fact 35 (f := .glo "_law_sounding") rfl), k__law_sounding := F35.kp, b__law_sounding := F35.bindsN fun _ _ _ _ _ _ us hl => match us, hl with | [_, _], _ => rfl
    a__law_planned := _, fd__law_planned := fd36, F__law_planned := F36, g__law_planned := He.glo_ok X G (c.fact 36 (f := .glo "_law_planned") rfl), k__law_planned := F36.kp, b__law_planned := F36.bindsN fun _ _ _ _ _ _ us hl => match us, hl with | [_], _ => rfl
    a_law := _, fd_law := fd37, F_law := F37, g_law := He.glo_ok X G (c.fact 37 (f := .glo "law") rfl), k_law := F37.kp, b_law := F37.bindsN fun _ _ _ _ _ _ us hl => match us, hl with | [_], _ => rfl
    c_SYLLABLES := con_ok X G (c.con 0 (p := ("SYLLABLES", .tuple [.str "ut", .str "re", .str "mi", .str "fa", .str "sol", .str "la"])) rfl)
    t_SYLLABLES := conT_ok X G (c.con 0 (p := ("SYLLABLES", .tuple [.str "ut", .str "re", .str "mi", .str "fa", .str "sol", .str "la"])) rfl)
    c_HEIGHTS := con_ok X G (c.con 1 (p := ("HEIGHTS", .tuple [.int 0, .int 2, .int 4, .int 5, .int 7, .int 9])) rfl)
    t_HEIGHTS := conT_ok X G (c.con 1 (p := ("HEIGHTS", .tuple [.int 0, .int 2, .int 4, .int 5, .int 7, .int 9])) rfl)
    c_BASES := con_ok X G (c.con 2 (p := ("BASES", .tuple [.int 0, .int 5, .int 7])) rfl)
    t_BASES := conT_ok X G (c.con 2 (p := ("BASES", .tuple [.int 0, .int 5, .int 7])) rfl)
    c_LOWEST := con_ok X G (c.con 3 (p := ("LOWEST", .int (-5))) rfl)
    c_HIGHEST := con_ok X G (c.con 4 (p := ("HIGHEST", .int 16)) rfl)
    c_MOST_TIMES := con_ok X G (c.con 5 (p := ("MOST_TIMES", .int 9)) rfl)
    n_any := He.free_ok X G (c.fact 38 (f := .free "any") rfl)
    n_bool := He.free_ok X G (c.fact 39 (f := .free "bool") rfl)
    n_enumerate := He.free_ok X G (c.fact 40 (f := .free "enumerate") rfl)
    n_int := He.free_ok X G (c.fact 41 (f := .free "int") rfl)
    n_isinstance := He.free_ok X G (c.fact 42 (f := .free "isinstance") rfl)
    n_len := He.free_ok X G (c.fact 43 (f := .free "len") rfl)
    n_list := He.free_ok X G (c.fact 44 (f := .free "list") rfl)
    n_min := He.free_ok X G (c.fact 45 (f := .free "min") rfl)
    n_range := He.free_ok X G (c.fact 46 (f := .free "range") rfl)
    n_sum := He.free_ok X G (c.fact 47 (f := .free "sum") rfl)
    n_tuple := He.free_ok X G (c.fact 48 (f := .free "tuple") rfl)
    n_zip := He.free_ok X G (c.fact 49 (f := .free "zip") rfl)
    xa_NoSuch := _, g_NoSuch := He.glo_ok X G (c.fact 50 (f := .glo "NoSuch") rfl), x_NoSuch := He.exc_ok (c.fact 51 (f := .exc "NoSuch") rfl)
    e_NoSuch_NoSuch := He.exm_ok (c.fact 52 (f := .exm "NoSuch" "NoSuch" true) rfl)
  }, rfl⟩
end K20

set_option Elab.async false
set_option linter.all false
set_option autoImplicit false
set_option maxRecDepth 100000
set_option maxHeartbeats 0
open PySem PySem.W PySem.Calls PyProof.Rows
theorem PySem.Challenge.cw_allsounded_k20_syllables_sung_and_phrase_holds : PySem.Challenge.rw_allsounded_k20_syllables_sung_and_phrase.Holds := by
  w_on; o_law
  refine HandSHeadRun.head_any (r := OpenLaw.row PySem.Challenge.rw_allsounded_k20_syllables_sung_and_phrase) (q := view (OpenLaw.row PySem.Challenge.rw_allsounded_k20_syllables_sung_and_phrase).prog [50]) (H := K20.hk) (ob := K20.ob) (M := 4000) (loose := K20.loose) (d := HandSHeadRun.topDef (OpenLaw.row PySem.Challenge.rw_allsounded_k20_syllables_sung_and_phrase).prog 50) (kwd := []) K20.ob_eq
    (by kernel_rfl) (fun s => by kernel_rfl) K20.run (by kernel_rfl) (by kernel_rfl) (by kernel_rfl) (by rfl) (by first | assumption | decide +kernel) (by decide +kernel) ⟨rfl, rfl, rfl, rfl, rfl, by decide +kernel⟩ ?hw ?hc
  case hw => w_witness2
  case hc =>
    refine VL.walk_ofV (l := PySem.Challenge.rw_allsounded_k20_syllables_sung_and_phrase) (n := 63) (k := 7) (x := "script") (f := K20.f_law) rfl (by decide) (by kernel_rfl) ⟨rfl, by decide, by decide⟩ (fun ns h1 h2 => K20.law_true ns h1) ?F
    intro w mg fa h Y G hmg0
    obtain ⟨K, KX, c⟩ := Y
    have hmg : mg ("law" : PySem.Str) = some (.ref fa) := by
      have e : (HandSHeadRun.topDef (OpenLaw.row PySem.Challenge.rw_allsounded_k20_syllables_sung_and_phrase).prog 50).name = ("law" : PySem.Str) := by kernel_rfl
      rw [← e]
      exact hmg0
    obtain ⟨T, eT⟩ := K20.top_of KX G c
    have ef : T.a_law = fa := by
      have e := T.g_law.symm.trans hmg
      cases e
      rfl
    refine ⟨K, T.fd_law, T.cls, KX, fun s u => L2.FunD.bindsA (ps := ["script"]) T.F_law (fun _ _ _ _ _ _ us hl => match us, hl with | [_], _ => rfl) s [u] rfl, fun base _ _ => ?_⟩
    have z := K20.ok_law (P := PySem.Challenge.pw_allsounded_k20_syllables_sung_and_phrase) (w := w) (base := base) T
    rw [ef] at z
    exact z

