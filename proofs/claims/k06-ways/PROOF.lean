import PyProof.Rows.All
import Wide.All
import OpenK.AllK
import Wide.FinOn
import KE.KStateDown
import Lean
import HandS.ForMost
import HandS.Exc
import HandS.ExcOwn
import HandS.TryOnly
import HandS.TryMany
import HandS.WordsExc
import HandS.Defaults
import HandS.Deep
import HandS.IsInst
import HandS.Flow
import HandS.Style
import HandS.TupAny
import HandS.TupMul
import HandS.TupLe
import HandS.More
import HandS.Conv
import HandS.Head0
import HandS.Head1
import HandS.Head2
import HandS.HeadEnd
import HandS.HeadHook1
import HandS.HeadHook2
import HandS.HeadHook3
import HandS.Replace
import HandS.SortInts
import HandS.Zip
import KE.GoesEnum
import HandS.Ends
import PySem.Challenge.RW_beltturns_k06_ways
set_option Elab.async false
set_option linter.all false
set_option maxRecDepth 100000
set_option maxHeartbeats 4000000
set_option autoImplicit false
/-! Data in the place of heaps. D: what a value is, whatever stands where; R: what a computation comes to; Env: the frame's slots as data. -/
namespace L2.Pv
open PySem PySem.Spec PyProof.Rows

/-- data -/
inductive D where
  | non | bl (b : Bool) | int (i : Int) | str (x : Str)
  | tup (xs : List D) | lst (xs : List D)
  /-- a dict: kind of its keys (false: ints and texts; true: tuples of these), its pairs -/
  | dct (t : Bool) (kvs : List (D × D))
  | obj (c : Str) (fs : List (Str × D))
  /-- the law's script -/
  | scr (ns : List Int)
  deriving Inhabited

/-- keeps simp from taking such a row as a definitional step -/
theorem nr {α : Sort _} {a b : α} (h : a = b) : a = b := h
/-- what a computation comes to: a value, an exception of the program's class, or nothing is said -/
inductive R (α : Type) where
  | ok (a : α) | ex (c : Str) | no
  deriving Inhabited
def R.bind {α β : Type} (r : R α) (f : α → R β) : R β := match r with
  | .ok a => f a
  | .ex c => .ex c
  | .no => .no
instance : Monad R where
  pure := R.ok
  bind := R.bind
@[simp] theorem R.ok_bind {α β : Type} (a : α) (f : α → R β) : (R.ok a).bind f = f a := nr rfl
@[simp] theorem R.ex_bind {α β : Type} (c : Str) (f : α → R β) : (R.ex c : R α).bind f = .ex c := nr rfl
@[simp] theorem R.no_bind {α β : Type} (f : α → R β) : (R.no : R α).bind f = .no := nr rfl
theorem R.bind_assoc {α β γ : Type} (r : R α) (f : α → R β) (g : β → R γ) : (r.bind f).bind g = r.bind fun a => (f a).bind g := by cases r <;> rfl

/-- a slot: data, or an object that this frame alone holds -/
inductive Sl where
  | val (d : D) | own (d : D)
abbrev Env := List (Option Sl)

section
variable (K : PySem.W.Frag) (mg : Str → Option Value) (F : Hp)
def keyD : Key → D
  | .inl i => .int i
  | .inr x => .str x
mutual
/-- by the frozen part F of the heap the value v is the data d -/
inductive Dat : V → D → Prop
  | non : Dat .non .non
  | bl (b : Bool) : Dat (.bl b) (.bl b)
  | int (i : Int) : Dat (.int i) (.int i)
  | str (x : Str) : Dat (.str x) (.str x)
  | tup {a : Addr} {xs : List V} {ds : List D} : F a = some (.tup xs) → DatL xs ds → Dat (.ref a) (.tup ds)
  | lst {a : Addr} {xs : List V} {ds : List D} : F a = some (.lst xs) → DatL xs ds → Dat (.ref a) (.lst ds)
  | scr {a : Addr} {ns : List Int} : SqL K F a (ns.map V.int) → Dat (.ref a) (.scr ns)
  | dctK {a : Addr} {o : Obj} {kvs : List (Key × V)} {ps : List (D × D)} : F a = some (.frz o (.dK kvs)) → DatK kvs ps → Dat (.ref a) (.dct false ps)
  | dctT {a : Addr} {o : Obj} {kvs : List (List Key × V)} {ps : List (D × D)} : F a = some (.frz o (.dT kvs)) → DatT kvs ps → Dat (.ref a) (.dct true ps)
  | obj {a C dx : Addr} {c : Str} {fv : List (Str × V)} {fs : List (Str × D)} : mg c = some (.ref C) → F a = some (.ins C dx fv) → DatF fv fs → Dat (.ref a) (.obj c fs)
inductive DatL : List V → List D → Prop
  | nil : DatL [] []
  | cons {v : V} {vs : List V} {d : D} {ds : List D} : Dat v d → DatL vs ds → DatL (v :: vs) (d :: ds)
inductive DatK : List (Key × V) → List (D × D) → Prop
  | nil : DatK [] []
  | cons {k : Key} {v : V} {vs : List (Key × V)} {d : D} {ds : List (D × D)} : Dat v d → DatK vs ds → DatK ((k, v) :: vs) ((keyD k, d) :: ds)
inductive DatT : List (List Key × V) → List (D × D) → Prop
  | nil : DatT [] []
  | cons {k : List Key} {v : V} {vs : List (List Key × V)} {d : D} {ds : List (D × D)} : Dat v d → DatT vs ds → DatT ((k, v) :: vs) ((.tup (k.map keyD), d) :: ds)
inductive DatF : List (Str × V) → List (Str × D) → Prop
  | nil : DatF [] []
  | cons {k : Str} {v : V} {vs : List (Str × V)} {d : D} {ds : List (Str × D)} : Dat v d → DatF vs ds → DatF ((k, v) :: vs) ((k, d) :: ds)
end
end

section
variable {K : PySem.W.Frag} {mg : Str → Option Value} {F F' : Hp}
theorem Rd.mono {a : Addr} {u : HO} (s : Same F F') (h : Rd F a u) : Rd F' a u := by
  rcases h with h | ⟨o, h⟩
  · exact .inl (s _ _ h)
  · exact .inr ⟨o, s _ _ h⟩
theorem SqL.mono {a : Addr} {xs : List V} (s : Same F F') (h : SqL K F a xs) : SqL K F' a xs := h.imp (Rd.mono s) id
theorem SqT.mono {a : Addr} {xs : List V} (s : Same F F') (h : SqT K F a xs) : SqT K F' a xs := h.imp (Rd.mono s) id
mutual
theorem Dat.mono (s : Same F F') : ∀ {v : V} {d : D}, Dat K mg F v d → Dat K mg F' v d
  | _, _, .non => .non
  | _, _, .bl b => .bl b
  | _, _, .int i => .int i
  | _, _, .str x => .str x
  | _, _, .tup h l => .tup (s _ _ h) (DatL.mono s l)
  | _, _, .lst h l => .lst (s _ _ h) (DatL.mono s l)
  | _, _, .scr h => .scr (SqL.mono s h)
  | _, _, .dctK h l => .dctK (s _ _ h) (DatK.mono s l)
  | _, _, .dctT h l => .dctT (s _ _ h) (DatT.mono s l)
  | _, _, .obj h1 h2 l => .obj h1 (s _ _ h2) (DatF.mono s l)
theorem DatL.mono (s : Same F F') : ∀ {v : List V} {d : List D}, DatL K mg F v d → DatL K mg F' v d
  | _, _, .nil => .nil
  | _, _, .cons h l => .cons (Dat.mono s h) (DatL.mono s l)
theorem DatK.mono (s : Same F F') : ∀ {v : List (Key × V)} {d : List (D × D)}, DatK K mg F v d → DatK K mg F' v d
  | _, _, .nil => .nil
  | _, _, .cons h l => .cons (Dat.mono s h) (DatK.mono s l)
theorem DatT.mono (s : Same F F') : ∀ {v : List (List Key × V)} {d : List (D × D)}, DatT K mg F v d → DatT K mg F' v d
  | _, _, .nil => .nil
  | _, _, .cons h l => .cons (Dat.mono s h) (DatT.mono s l)
theorem DatF.mono (s : Same F F') : ∀ {v : List (Str × V)} {d : List (Str × D)}, DatF K mg F v d → DatF K mg F' v d
  | _, _, .nil => .nil
  | _, _, .cons h l => .cons (Dat.mono s h) (DatF.mono s l)
end
theorem DatL.len : ∀ {vs : List V} {ds : List D}, DatL K mg F vs ds → vs.length = ds.length
  | _, _, .nil => rfl
  | _, _, .cons _ l => congrArg (· + 1) l.len
theorem DatL.get : ∀ {vs : List V} {ds : List D} {i : Nat} {v : V}, DatL K mg F vs ds → vs[i]? = some v → ∃ d, ds[i]? = some d ∧ Dat K mg F v d
  | _, _, 0, _, .cons h _, e => by cases e; exact ⟨_, rfl, h⟩
  | _, _, i + 1, _, .cons _ l, e => DatL.get (i := i) l e
theorem DatL.getD : ∀ {vs : List V} {ds : List D} {i : Nat} {d : D}, DatL K mg F vs ds → ds[i]? = some d → ∃ v, vs[i]? = some v ∧ Dat K mg F v d
  | _, _, 0, _, .cons h _, e => by cases e; exact ⟨_, rfl, h⟩
  | _, _, i + 1, _, .cons _ l, e => DatL.getD (i := i) l e
theorem DatL.app : ∀ {vs ws : List V} {ds es : List D}, DatL K mg F vs ds → DatL K mg F ws es → DatL K mg F (vs ++ ws) (ds ++ es)
  | _, _, _, _, .nil, m => m
  | _, _, _, _, .cons h l, m => .cons h (l.app m)
theorem DatL.take : ∀ {vs : List V} {ds : List D} (n : Nat), DatL K mg F vs ds → DatL K mg F (vs.take n) (ds.take n)
  | _, _, 0, _ => .nil
  | _, _, _ + 1, .nil => .nil
  | _, _, n + 1, .cons h l => .cons h (l.take n)
theorem DatL.drop : ∀ {vs : List V} {ds : List D} (n : Nat), DatL K mg F vs ds → DatL K mg F (vs.drop n) (ds.drop n)
  | _, _, 0, l => l
  | _, _, _ + 1, .nil => .nil
  | _, _, n + 1, .cons _ l => DatL.drop n l
theorem DatL.set : ∀ {vs : List V} {ds : List D} (n : Nat) {v : V} {d : D}, DatL K mg F vs ds → Dat K mg F v d → DatL K mg F (vs.set n v) (ds.set n d)
  | _, _, _, _, _, .nil, _ => .nil
  | _, _, 0, _, _, .cons _ l, q => .cons q l
  | _, _, n + 1, _, _, .cons h l, q => .cons h (l.set n q)
theorem DatL.snoc {vs : List V} {ds : List D} {v : V} {d : D} (l : DatL K mg F vs ds) (h : Dat K mg F v d) : DatL K mg F (vs ++ [v]) (ds ++ [d]) := l.app (.cons h .nil)
theorem DatL.rev : ∀ {vs : List V} {ds : List D}, DatL K mg F vs ds → DatL K mg F vs.reverse ds.reverse
  | _, _, .nil => .nil
  | _, _, .cons h l => by rw [List.reverse_cons, List.reverse_cons]; exact l.rev.app (.cons h .nil)
end

/-- from the frozen part F of H to F' of H': both grow; what is new in F' was nowhere in H -/
structure Ext (F H F' H' : Hp) : Prop where
  ff : Same F F'
  fh : Same F' H'
  hh : Same H H'
  nw : ∀ a o, F' a = some o → F a = none → H a = none ∨ ∃ xs, o = .tup xs
theorem Ext.refl {F H : Hp} (h : Same F H) : Ext F H F H := ⟨Same.refl _, h, Same.refl _, fun a o e n => by rw [n] at e; cases e⟩
theorem Ext.trans {F H F1 H1 F2 H2 : Hp} (x : Ext F H F1 H1) (y : Ext F1 H1 F2 H2) : Ext F H F2 H2 := ⟨x.ff.trans y.ff, y.fh, x.hh.trans y.hh, fun a o e n => by
  cases q : F1 a with
  | some u =>
    have z := y.ff a u q
    rw [e] at z; cases z
    exact x.nw a _ q n
  | none => exact (y.nw a o e q).imp x.hh.free id⟩
/-- what this frame alone holds is not frozen by it -/
theorem Ext.own {F H F' H' : Hp} (x : Ext F H F' H') {a : Addr} {u : HO} (n : F a = none) (h : H a = some u) (mu : Mut (some u)) : F' a = none := by
  cases q : F' a with
  | none => rfl
  | some w =>
    rcases x.nw a w q n with z | ⟨xs, z⟩
    · rw [z] at h; cases h
    · have z1 := x.fh a w q
      rw [x.hh a u h] at z1; cases z1
      subst z
      exact False.elim mu
theorem same_upd {H : Hp} {a : Addr} {o : HO} (h : H a = none) : Same H (upd H a o) := fun b u e => by rw [upd_ne (ne_of_none e h)]; exact e
theorem same_upd2 {F H : Hp} {a : Addr} {o : HO} (h : Same F H) : Same (upd F a o) (upd H a o) := fun b u e => by
  by_cases q : b = a
  · subst q; rw [upd_same] at e ⊢; exact e
  · rw [upd_ne q] at e ⊢; exact h b u e
/-- a new frozen object -/
theorem Ext.new {F H : Hp} {a : Addr} {o : HO} (h : Same F H) (n : H a = none) : Ext F H (upd F a o) (upd H a o) := ⟨same_upd (h.free n), same_upd2 h, same_upd n, fun b u e m => by
  by_cases q : b = a
  · subst q; exact .inl n
  · rw [upd_ne q, m] at e; cases e⟩

section
variable (K : PySem.W.Frag) (mg : Str → Option Value)
/-- at a, not frozen, stands this -/
def OwnAt (F H : Hp) (a : Addr) : D → Prop
  | .lst ds => ∃ vs, H a = some (.lst vs) ∧ DatL K mg F vs ds
  | .dct false ps => ∃ kvs, H a = some (.dK kvs) ∧ DatK K mg F kvs ps
  | .dct true ps => ∃ kvs, H a = some (.dT kvs) ∧ DatT K mg F kvs ps
  | .obj c fs => ∃ C dx fv, mg c = some (.ref C) ∧ H a = some (.ins C dx fv) ∧ DatF K mg F fv fs
  | _ => False
def SlOk (F H : Hp) (v : V) : Sl → Prop
  | .val d => Dat K mg F v d
  | .own d => ∃ a, v = .ref a ∧ F a = none ∧ OwnAt K mg F H a d
/-- the frame's slots σ in H are ρ. F0, H0: at the def's entry -/
structure Rel (F0 H0 F : Hp) (σ : St) (H : Hp) (ρ : Env) : Prop where
  fh : Same F H
  f0 : Same F0 F
  h0 : Same H0 H
  nw : ∀ a o, F a = some o → F0 a = none → H0 a = none ∨ ∃ xs, o = .tup xs
  len : ρ.length = σ.length
  sl : ∀ (i : Nat) (s : Sl), ρ[i]? = some (some s) → ∃ v, σ[i]? = some (some v) ∧ SlOk K mg F H v s
  ow : ∀ (i : Nat) (d : D) (a : Addr), ρ[i]? = some (some (.own d)) → σ[i]? = some (some (.ref a)) → H0 a = none
  un : ∀ (i j : Nat) (d e : D) (a : Addr), i ≠ j → ρ[i]? = some (some (.own d)) → ρ[j]? = some (some (.own e)) → σ[i]? = some (some (.ref a)) → σ[j]? = some (some (.ref a)) → False
end
section
variable {K : PySem.W.Frag} {mg : Str → Option Value} {F0 H0 F H F' H' : Hp} {σ σ' : St} {ρ ρ' : Env} {v : V} {d d0 : D} {a : Addr} {i : Nat}
theorem OwnAt.mono (s : Same F F') (e : H' a = H a) (o : OwnAt K mg F H a d) : OwnAt K mg F' H' a d := by
  cases d with
  | lst ds => obtain ⟨vs, h, l⟩ := o; exact ⟨vs, e.trans h, l.mono s⟩
  | dct t ps => cases t with
    | false => obtain ⟨vs, h, l⟩ := o; exact ⟨vs, e.trans h, l.mono s⟩
    | true => obtain ⟨vs, h, l⟩ := o; exact ⟨vs, e.trans h, l.mono s⟩
  | obj c fs => obtain ⟨C, dx, fv, h1, h2, l⟩ := o; exact ⟨C, dx, fv, h1, e.trans h2, l.mono s⟩
  | _ => exact False.elim o
theorem OwnAt.some (o : OwnAt K mg F H a d) : ∃ u, H a = some u ∧ Mut (some u) := by
  cases d with
  | lst ds => obtain ⟨vs, h, l⟩ := o; exact ⟨_, h, trivial⟩
  | dct t ps => cases t with
    | false => obtain ⟨vs, h, l⟩ := o; exact ⟨_, h, trivial⟩
    | true => obtain ⟨vs, h, l⟩ := o; exact ⟨_, h, trivial⟩
  | obj c fs => obtain ⟨C, dx, fv, h1, h2, l⟩ := o; exact ⟨_, h2, trivial⟩
  | _ => exact False.elim o
/-- how a thing that is frozen stands: a dict known to its object -/
def frzTo (o : Obj) : HO → HO
  | .dK kvs => .frz o (.dK kvs)
  | .dT kvs => .frz o (.dT kvs)
  | u => u
/-- frozen, it is data -/
theorem OwnAt.dat {u : HO} (ob : Obj) (o : OwnAt K mg F H a d) (n : F a = none) (h : H a = Option.some u) : Dat K mg (upd F a (frzTo ob u)) (.ref a) d := by
  have s : Same F (upd F a (frzTo ob u)) := same_upd n
  cases d with
  | lst ds => obtain ⟨vs, e, l⟩ := o; rw [h] at e; cases e; exact .lst upd_same (l.mono s)
  | dct t ps => cases t with
    | false => obtain ⟨vs, e, l⟩ := o; rw [h] at e; cases e; exact .dctK upd_same (l.mono s)
    | true => obtain ⟨vs, e, l⟩ := o; rw [h] at e; cases e; exact .dctT upd_same (l.mono s)
  | obj c fs => obtain ⟨C, dx, fv, h1, e, l⟩ := o; rw [h] at e; cases e; exact .obj h1 upd_same (l.mono s)
  | _ => exact False.elim o
theorem Rel.toExt (r : Rel K mg F0 H0 F σ H ρ) : Ext F0 H0 F H := ⟨r.f0, r.fh, r.h0, r.nw⟩
theorem Rel.ext (r : Rel K mg F0 H0 F σ H ρ) (x : Ext F H F' H') : Rel K mg F0 H0 F' σ H' ρ where
  fh := x.fh
  f0 := r.f0.trans x.ff
  h0 := r.h0.trans x.hh
  nw := (r.toExt.trans x).nw
  len := r.len
  sl := fun i s e => by
    obtain ⟨v, hv, k⟩ := r.sl i s e
    refine ⟨v, hv, ?_⟩
    cases s with
    | val d => exact k.mono x.ff
    | own d =>
      obtain ⟨a, rfl, n, o⟩ := k
      obtain ⟨u, hu, mu⟩ := o.some
      exact ⟨a, rfl, x.own n hu mu, o.mono x.ff ((x.hh a u hu).trans hu.symm)⟩
  ow := r.ow
  un := r.un
/-- a slot is forgotten -/
theorem Rel.forget (r : Rel K mg F0 H0 F σ H ρ) (i : Nat) : Rel K mg F0 H0 F σ H (ρ.set i none) := by
  have k : ∀ (j : Nat) (s : Sl), (ρ.set i none)[j]? = some (some s) → ρ[j]? = some (some s) := fun j s e => by
    rw [List.getElem?_set] at e
    split at e
    · split at e <;> cases e
    · exact e
  exact ⟨r.fh, r.f0, r.h0, r.nw, by rw [List.length_set]; exact r.len, fun j s e => r.sl j s (k j s e), fun j d a e => r.ow j d a (k j _ e), fun j l d e a ne h1 h2 => r.un j l d e a ne (k j _ h1) (k l _ h2)⟩
/-- a slot is stored: data -/
theorem Rel.put (r : Rel K mg F0 H0 F σ H ρ) (i : Nat) (h : Dat K mg F v d) : Rel K mg F0 H0 F (σ.set i (some v)) H (ρ.set i (some (.val d))) := by
  have k : ∀ (j : Nat) (s : Sl), j ≠ i → (ρ.set i (some (.val d)))[j]? = some (some s) → ρ[j]? = some (some s) := fun j s ne e => by
    rw [List.getElem?_set_ne (Ne.symm ne)] at e; exact e
  have ko : ∀ (j : Nat) (e : D), (ρ.set i (some (.val d)))[j]? = some (some (.own e)) → j ≠ i := fun j e h q => by
    subst q
    rw [List.getElem?_set] at h
    simp only [if_true] at h
    split at h <;> cases h
  refine ⟨r.fh, r.f0, r.h0, r.nw, by rw [List.length_set, List.length_set]; exact r.len, fun j s e => ?_, fun j e a h1 h2 => ?_, fun j l e f a ne h1 h2 h3 h4 => ?_⟩
  · by_cases q : j = i
    · subst q
      have hl : j < ρ.length := by
        have := (List.getElem?_eq_some_iff.mp e).1
        rwa [List.length_set] at this
      rw [List.getElem?_set_self hl] at e
      cases e
      exact ⟨v, List.getElem?_set_self (by rw [← r.len]; exact hl), h⟩
    · obtain ⟨w, hw, o⟩ := r.sl j s (k j s q e)
      exact ⟨w, by rw [List.getElem?_set_ne (Ne.symm q)]; exact hw, o⟩
  · have q := ko j e h1
    rw [List.getElem?_set_ne (Ne.symm q)] at h2
    exact r.ow j e a (k j _ q h1) h2
  · have q := ko j e h1
    have q' := ko l f h2
    rw [List.getElem?_set_ne (Ne.symm q)] at h3
    rw [List.getElem?_set_ne (Ne.symm q')] at h4
    exact r.un j l e f a ne (k j _ q h1) (k l _ q' h2) h3 h4
/-- .. a new object that this frame alone holds -/
theorem Rel.putOwn (r : Rel K mg F0 H0 F σ H ρ) (i : Nat) (h : OwnAt K mg F H a d) (n : F a = none) (n0 : H0 a = none) (new : ∀ (j : Nat) (e : D), j ≠ i → ρ[j]? = some (some (.own e)) → σ[j]? = some (some (.ref a)) → False) :
    Rel K mg F0 H0 F (σ.set i (some (.ref a))) H (ρ.set i (some (.own d))) := by
  have k : ∀ (j : Nat) (s : Sl), j ≠ i → (ρ.set i (some (.own d)))[j]? = some (some s) → ρ[j]? = some (some s) := fun j s ne e => by
    rw [List.getElem?_set_ne (Ne.symm ne)] at e; exact e
  refine ⟨r.fh, r.f0, r.h0, r.nw, by rw [List.length_set, List.length_set]; exact r.len, fun j s e => ?_, fun j e b h1 h2 => ?_, fun j l e f b ne h1 h2 h3 h4 => ?_⟩
  · by_cases q : j = i
    · subst q
      have hl : j < ρ.length := by
        have := (List.getElem?_eq_some_iff.mp e).1
        rwa [List.length_set] at this
      rw [List.getElem?_set_self hl] at e
      cases e
      exact ⟨.ref a, List.getElem?_set_self (by rw [← r.len]; exact hl), a, rfl, n, h⟩
    · obtain ⟨w, hw, o⟩ := r.sl j s (k j s q e)
      exact ⟨w, by rw [List.getElem?_set_ne (Ne.symm q)]; exact hw, o⟩
  · by_cases q : j = i
    · subst q
      have hl : j < σ.length := by
        have := (List.getElem?_eq_some_iff.mp h2).1
        rwa [List.length_set] at this
      rw [List.getElem?_set_self hl] at h2
      cases h2
      exact n0
    · rw [List.getElem?_set_ne (Ne.symm q)] at h2
      exact r.ow j e b (k j _ q h1) h2
  · have at_ : ∀ (j : Nat), j = i → (σ.set i (some (V.ref a)))[j]? = some (some (.ref b)) → b = a := fun j q h => by
      subst q
      have hl : j < σ.length := by
        have := (List.getElem?_eq_some_iff.mp h).1
        rwa [List.length_set] at this
      rw [List.getElem?_set_self hl] at h
      cases h; rfl
    by_cases q : j = i
    · have ql : l ≠ i := fun z => ne (q.trans z.symm)
      have eb := at_ j q h3
      subst eb
      rw [List.getElem?_set_ne (Ne.symm ql)] at h4
      exact new l f ql (k l _ ql h2) h4
    · by_cases q' : l = i
      · have eb := at_ l q' h4
        subst eb
        rw [List.getElem?_set_ne (Ne.symm q)] at h3
        exact new j e q (k j _ q h1) h3
      · rw [List.getElem?_set_ne (Ne.symm q)] at h3
        rw [List.getElem?_set_ne (Ne.symm q')] at h4
        exact r.un j l e f b ne (k j _ q h1) (k l _ q' h2) h3 h4
/-- what a slot holds alone is changed -/
theorem Rel.write {u : HO} (r : Rel K mg F0 H0 F σ H ρ) (e : ρ[i]? = some (some (.own d0))) (es : σ[i]? = some (some (.ref a))) (h : OwnAt K mg F (upd H a u) a d) : Rel K mg F0 H0 F σ (upd H a u) (ρ.set i (some (.own d))) := by
  obtain ⟨v, hv, b, rfl, n, o⟩ := r.sl i _ e
  have hb : b = a := by rw [es] at hv; cases hv; rfl
  subst hb
  have n0 := r.ow i _ b e es
  have hil : i < ρ.length := (List.getElem?_eq_some_iff.mp e).1
  have k : ∀ (j : Nat) (s : Sl), j ≠ i → (ρ.set i (some (.own d)))[j]? = some (some s) → ρ[j]? = some (some s) := fun j s ne e => by
    rw [List.getElem?_set_ne (Ne.symm ne)] at e; exact e
  have fh : Same F (upd H b u) := fun c w hc => by
    rw [upd_ne (ne_of_none hc n)]; exact r.fh c w hc
  refine ⟨fh, r.f0, fun c w hc => by rw [upd_ne (ne_of_none hc n0)]; exact r.h0 c w hc, r.nw, by rw [List.length_set]; exact r.len, fun j s q => ?_, fun j f c h1 h2 => ?_, fun j l f g c ne h1 h2 h3 h4 => ?_⟩
  · by_cases z : j = i
    · subst z
      rw [List.getElem?_set_self hil] at q
      cases q
      exact ⟨_, es, b, rfl, n, h⟩
    · have q' := k j s z q
      obtain ⟨w, hw, o'⟩ := r.sl j s q'
      refine ⟨w, hw, ?_⟩
      cases s with
      | val d' => exact o'
      | own d' =>
        obtain ⟨c, rfl, n', o''⟩ := o'
        have ncb : c ≠ b := fun zz => by subst zz; exact r.un j i d' d0 c z q' e hw es
        exact ⟨c, rfl, n', o''.mono (Same.refl F) (upd_ne ncb)⟩
  · by_cases z : j = i
    · subst z; exact r.ow j d0 c e h2
    · exact r.ow j f c (k j _ z h1) h2
  · by_cases z : j = i
    · subst z
      have zl : l ≠ j := fun q => ne q.symm
      exact r.un j l d0 g c ne e (k l _ zl h2) h3 h4
    · by_cases z' : l = i
      · subst z'; exact r.un j l f d0 c ne (k j _ z h1) e h3 h4
      · exact r.un j l f g c ne (k j _ z h1) (k l _ z' h2) h3 h4
/-- what a slot holds alone is frozen -/
theorem Rel.freeze (r : Rel K mg F0 H0 F σ H ρ) (e : ρ[i]? = some (some (.own d))) : ∃ a u, H a = some u ∧ Mut (some u) ∧ ∀ ob, ∃ F', Same F F' ∧ Rel K mg F0 H0 F' σ (upd H a (frzTo ob u)) (ρ.set i (some (.val d))) := by
  obtain ⟨v, hv, a, rfl, n, o⟩ := r.sl i _ e
  obtain ⟨u, hu, mu⟩ := o.some
  have n0 := r.ow i _ a e hv
  have hil : i < ρ.length := (List.getElem?_eq_some_iff.mp e).1
  have ko : ∀ (j : Nat) (e : D), (ρ.set i (some (.val d)))[j]? = some (some (.own e)) → j ≠ i ∧ ρ[j]? = some (some (.own e)) := fun j e h => by
    by_cases q : j = i
    · subst q
      rw [List.getElem?_set_self hil] at h
      cases h
    · rw [List.getElem?_set_ne (Ne.symm q)] at h
      exact ⟨q, h⟩
  refine ⟨a, u, hu, mu, fun ob => ?_⟩
  have ff : Same F (upd F a (frzTo ob u)) := same_upd n
  refine ⟨upd F a (frzTo ob u), ff, same_upd2 r.fh, r.f0.trans ff, fun c w hc => ?_, fun c w hc hn => ?_, by rw [List.length_set]; exact r.len, fun j s q => ?_, fun j f c h1 h2 => r.ow j f c (ko j f h1).2 h2, fun j l f g c ne h1 h2 h3 h4 => r.un j l f g c ne (ko j f h1).2 (ko l g h2).2 h3 h4⟩
  · rw [upd_ne (ne_of_none hc n0)]; exact r.h0 c w hc
  · by_cases q : c = a
    · subst q; exact .inl n0
    · rw [upd_ne q] at hc; exact r.nw c w hc hn
  · by_cases z : j = i
    · subst z
      rw [List.getElem?_set_self hil] at q
      cases q
      exact ⟨_, hv, o.dat ob n hu⟩
    · rw [List.getElem?_set_ne (Ne.symm z)] at q
      obtain ⟨w, hw, o'⟩ := r.sl j s q
      refine ⟨w, hw, ?_⟩
      cases s with
      | val d' => exact o'.mono ff
      | own d' =>
        obtain ⟨c, rfl, n', o''⟩ := o'
        have ncb : c ≠ a := fun zz => by subst zz; exact r.un j i d' d c z q e hw hv
        exact ⟨c, rfl, by rw [upd_ne ncb]; exact n', o''.mono ff (upd_ne ncb)⟩
/-- the frozen form of what stands at an address, in the invariant -/
theorem Inv.frozen {X : Cx} {pins : List (Addr × Obj)} {s : Shared} {u : HO} (I : Inv X pins σ H s) (h : H a = some u) (mu : Mut (some u)) : ∃ ob, Inv X pins σ (upd H a (frzTo ob u)) s := by
  have same : Inv X pins σ (upd H a u) s := by
    have e : upd H a u = H := funext fun b => by
      by_cases q : b = a
      · rw [q, upd_same, h]
      · rw [upd_ne q]
    rw [e]; exact I
  cases u with
  | dK kvs => exact I.lock h mu
  | dT kvs => exact I.lock h mu
  | lst xs => exact ⟨default, same⟩
  | set S n => exact ⟨default, same⟩
  | ins C dx fs => exact ⟨default, same⟩
  | ext φ => exact ⟨default, same⟩
  | _ => exact False.elim mu
end
end L2.Pv

set_option Elab.async false
set_option linter.all false
set_option maxRecDepth 100000
set_option maxHeartbeats 4000000
set_option autoImplicit false
/-! Operations upon data. -/
namespace L2.Pv
open PySem PySem.Spec PyProof.Rows

section
variable (K : PySem.W.Frag) (mg : Str → Option Value)
/-- a value read: data, or what a slot alone holds -/
def DatB (F H : Hp) (v : V) (d : D) : Prop := Dat K mg F v d ∨ ∃ a, v = .ref a ∧ F a = none ∧ OwnAt K mg F H a d
end
section
variable {K : PySem.W.Frag} {mg : Str → Option Value} {F H F' H' : Hp} {v : V} {d : D}
theorem DatB.ext (x : Ext F H F' H') (b : DatB K mg F H v d) : DatB K mg F' H' v d := by
  rcases b with b | ⟨a, e, n, o⟩
  · exact .inl (b.mono x.ff)
  · obtain ⟨u, hu, mu⟩ := o.some
    exact .inr ⟨a, e, x.own n hu mu, o.mono x.ff ((x.hh a u hu).trans hu.symm)⟩
theorem DatB.non (b : DatB K mg F H v .non) : v = .non := by
  rcases b with b | ⟨a, e, n, o⟩
  · cases b; rfl
  · exact False.elim o
theorem DatB.bl {x : Bool} (b : DatB K mg F H v (.bl x)) : v = .bl x := by
  rcases b with b | ⟨a, e, n, o⟩
  · cases b; rfl
  · exact False.elim o
theorem DatB.int {x : Int} (b : DatB K mg F H v (.int x)) : v = .int x := by
  rcases b with b | ⟨a, e, n, o⟩
  · cases b; rfl
  · exact False.elim o
theorem DatB.str {x : Str} (b : DatB K mg F H v (.str x)) : v = .str x := by
  rcases b with b | ⟨a, e, n, o⟩
  · cases b; rfl
  · exact False.elim o
theorem DatB.tup {ds : List D} (fh : Same F H) (b : DatB K mg F H v (.tup ds)) : ∃ a xs, v = .ref a ∧ F a = some (.tup xs) ∧ H a = some (.tup xs) ∧ DatL K mg F xs ds := by
  rcases b with b | ⟨a, e, n, o⟩
  · cases b with | tup h l => exact ⟨_, _, rfl, h, fh _ _ h, l⟩
  · exact False.elim o
theorem DatB.lst {ds : List D} (fh : Same F H) (b : DatB K mg F H v (.lst ds)) : ∃ a xs, v = .ref a ∧ H a = some (.lst xs) ∧ DatL K mg F xs ds := by
  rcases b with b | ⟨a, e, n, o⟩
  · cases b with | lst h l => exact ⟨_, _, rfl, fh _ _ h, l⟩
  · obtain ⟨xs, h, l⟩ := o; exact ⟨a, xs, e, h, l⟩
theorem DatB.scr {ns : List Int} (fh : Same F H) (b : DatB K mg F H v (.scr ns)) : ∃ a, v = .ref a ∧ SqL K H a (ns.map V.int) := by
  rcases b with b | ⟨a, e, n, o⟩
  · cases b with | scr h => exact ⟨_, rfl, SqL.mono fh h⟩
  · exact False.elim o
theorem DatB.dctK {ps : List (D × D)} (fh : Same F H) (b : DatB K mg F H v (.dct false ps)) : ∃ a kvs, v = .ref a ∧ Rd H a (.dK kvs) ∧ DatK K mg F kvs ps := by
  rcases b with b | ⟨a, e, n, o⟩
  · cases b with | dctK h l => exact ⟨_, _, rfl, .inr ⟨_, fh _ _ h⟩, l⟩
  · obtain ⟨xs, h, l⟩ := o; exact ⟨a, xs, e, .inl h, l⟩
theorem DatB.dctT {ps : List (D × D)} (fh : Same F H) (b : DatB K mg F H v (.dct true ps)) : ∃ a kvs, v = .ref a ∧ Rd H a (.dT kvs) ∧ DatT K mg F kvs ps := by
  rcases b with b | ⟨a, e, n, o⟩
  · cases b with | dctT h l => exact ⟨_, _, rfl, .inr ⟨_, fh _ _ h⟩, l⟩
  · obtain ⟨xs, h, l⟩ := o; exact ⟨a, xs, e, .inl h, l⟩
theorem DatB.obj {c : Str} {fs : List (Str × D)} (fh : Same F H) (b : DatB K mg F H v (.obj c fs)) : ∃ a C dx fv, v = .ref a ∧ mg c = some (.ref C) ∧ H a = some (.ins C dx fv) ∧ DatF K mg F fv fs := by
  rcases b with b | ⟨a, e, n, o⟩
  · cases b with | obj h1 h2 l => exact ⟨_, _, _, _, rfl, h1, fh _ _ h2, l⟩
  · obtain ⟨C, dx, fv, h1, h2, l⟩ := o; exact ⟨a, C, dx, fv, e, h1, h2, l⟩

/-! ### data that holds no dicts, as the library's own -/
mutual
def D.py : D → PyData
  | .non => .none
  | .bl b => .bool b
  | .int i => .int i
  | .str x => .str x
  | .tup xs => .tuple (D.pys xs)
  | .lst xs => .list (D.pys xs)
  | .dct _ _ => .dict []
  | .obj _ _ => .dict []
  | .scr _ => .dict []
def D.pys : List D → List PyData
  | [] => []
  | d :: ds => d.py :: D.pys ds
end
mutual
theorem Dat.dp {F : Hp} : ∀ {v : V} {d : D}, Dat K mg F v d → d.py.canLay0 = true → Dp K F v d.py
  | _, _, .non, _ => .non
  | _, _, .bl b, _ => .bl b
  | _, _, .int i, _ => .int i
  | _, _, .str x, _ => .str x
  | _, _, .tup h l, e => .tup (SqT.of h) (DatL.dp l e)
  | _, _, .lst h l, e => .lst (SqL.of h) (DatL.dp l e)
  | _, _, .scr _, e => by cases e
  | _, _, .dctK _ _, e => by cases e
  | _, _, .dctT _ _, e => by cases e
  | _, _, .obj _ _ _, e => by cases e
theorem DatL.dp {F : Hp} : ∀ {v : List V} {d : List D}, DatL K mg F v d → PyData.canLayAll0 (D.pys d) = true → DpAll K F v (D.pys d)
  | _, _, .nil, _ => .nil
  | _, _, .cons h l, e => .cons (Dat.dp h (Bool.and_eq_true_iff.mp e).1) (DatL.dp l (Bool.and_eq_true_iff.mp e).2)
end
theorem DatB.toDat (fh : Same F H) (b : DatB K mg F H v d) (e : d.py.canLay0 = true) : ∃ G, Same F G ∧ Same G H ∧ Dat K mg G v d := by
  rcases b with b | ⟨a, e, n, o⟩
  · exact ⟨F, Same.refl F, fh, b⟩
  · subst e
    cases d with
    | lst ds =>
      obtain ⟨vs, hu, l⟩ := o
      refine ⟨upd F a (.lst vs), same_upd n, fun c w hc => ?_, .lst upd_same (l.mono (same_upd n))⟩
      by_cases q : c = a
      · subst q; rw [upd_same] at hc; cases hc; exact hu
      · rw [upd_ne q] at hc; exact fh c w hc
    | dct t ps => cases e
    | obj c fs => cases e
    | _ => exact False.elim o
theorem DatB.dp (fh : Same F H) (b : DatB K mg F H v d) (e : d.py.canLay0 = true) : Dp K H v d.py := by
  obtain ⟨G, _, gh, q⟩ := b.toDat fh e
  exact (q.mono gh).dp e
end

/-- how long a list or a text may grow -/
def lim : Nat := 1000000
theorem lim_line {n : Nat} (h : n ≤ lim) : n ≤ sizeLine := Nat.le_trans h (by decide)
theorem lim_lt {n : Nat} (h : n < lim) : n < sizeLine := Nat.lt_of_lt_of_le h (by decide)

/-! ### the operations -/
def D.add (x y : D) : Option D := match x, y with
  | .int i, .int j => some (.int (i + j))
  | .str i, .str j => if i.length + j.length ≤ lim then some (.str (i ++ j)) else none
  | .tup xs, .tup ys => if xs.length + ys.length ≤ lim then some (.tup (xs ++ ys)) else none
  | .lst xs, .lst ys => if xs.length + ys.length ≤ lim then some (.lst (xs ++ ys)) else none
  | _, _ => none
def D.sub (x y : D) : Option D := match x, y with
  | .int i, .int j => some (.int (i - j))
  | _, _ => none
def smallI (i : Int) : Bool := decide (-(2 ^ 64) < i) && decide (i < 2 ^ 64)
def D.mul (x y : D) : Option D := match x, y with
  | .int i, .int j => if smallI i || smallI j then some (.int (i * j)) else none
  | .tup xs, .int k => if xs.isEmpty || decide (k < 2) || decide (1000 < k) || decide (1000 < xs.length) then none else some (.tup (List.replicate k.toNat xs).flatten)
  | .lst xs, .int k => if decide (k < 0) || decide (1000 < k) || decide (1000 < xs.length) then none else some (.lst (List.replicate k.toNat xs).flatten)
  | _, _ => none
def D.mod (x y : D) : Option D := match x, y with
  | .int i, .int j => if 0 < j then some (.int (i % j)) else none
  | _, _ => none
def D.fdiv (x y : D) : Option D := match x, y with
  | .int i, .int j => if decide (0 < j) && decide (j < 1073741824) then some (.int (i / j)) else none
  | _, _ => none
def D.pow (x y : D) : Option D := match x, y with
  | .int i, .int j => if decide (0 ≤ j) && (decide (j ≤ 1000000) && decide (i.natAbs < 2 ^ 64)) then some (.int (i ^ j.toNat)) else none
  | _, _ => none
def D.lt (x y : D) : Option D := match x, y with
  | .int i, .int j => some (.bl (decide (i < j)))
  | _, _ => none
def D.le (x y : D) : Option D := match x, y with
  | .int i, .int j => some (.bl (decide (i ≤ j)))
  | _, _ => none
def D.gt (x y : D) : Option D := match x, y with
  | .int i, .int j => some (.bl (decide (j < i)))
  | _, _ => none
def D.ge (x y : D) : Option D := match x, y with
  | .int i, .int j => some (.bl (decide (j ≤ i)))
  | _, _ => none
def D.eqb (x y : D) : Bool := PyData.eqv x.py y.py
def D.eq (x y : D) : Option D := if SeqAt.shaped x.py && SeqAt.shaped y.py then some (.bl (x.eqb y)) else none
def D.ne (x y : D) : Option D := if SeqAt.shaped x.py && SeqAt.shaped y.py then some (.bl (!x.eqb y)) else none
def D.isN (x y : D) : Option D := match y, x with
  | .non, .non => some (.bl true)
  | .non, _ => some (.bl false)
  | _, _ => none
def D.isNn (x y : D) : Option D := match y, x with
  | .non, .non => some (.bl false)
  | .non, _ => some (.bl true)
  | _, _ => none

section
variable {X : Cx}
/-- a two-place operation upon data -/
def rM (K : PySem.W.Frag) (mg : Str → Option Value) (g : D → D → Option D) : R2 := fun x y H Q => ∃ F dx dy d, Same F H ∧ DatB K mg F H x dx ∧ DatB K mg F H y dy ∧ g dx dy = some d ∧
  ∀ F' H' v, Ext F H F' H' → Dat K mg F' v d → Q v H'
def OpM (X : Cx) (f : Value → Value → Sem Value) (g : D → D → Option D) : Prop := OpR X f (rM X.K X.mg g)

theorem tup_new {K : PySem.W.Frag} {mg : Str → Option Value} {F H : Hp} {xs : List V} {ds : List D} {Q : VK} (fh : Same F H) (l : DatL K mg F xs ds) (k : ∀ F' H' v, Ext F H F' H' → Dat K mg F' v (.tup ds) → Q v H') : ∀ p, H p = none → Q (.ref p) (upd H p (.tup xs)) := fun p n =>
  k _ _ _ (Ext.new fh n) (.tup upd_same (l.mono (same_upd (fh.free n))))
theorem lst_new {K : PySem.W.Frag} {mg : Str → Option Value} {F H : Hp} {xs : List V} {ds : List D} {Q : VK} (fh : Same F H) (l : DatL K mg F xs ds) (k : ∀ F' H' v, Ext F H F' H' → Dat K mg F' v (.lst ds) → Q v H') : ∀ p, H p = none → Q (.ref p) (upd H p (.lst xs)) := fun p n =>
  k _ _ _ (Ext.new fh n) (.lst upd_same (l.mono (same_upd (fh.free n))))

theorem opm_add : OpM X (binaryOp .Add) D.add := by
  intro pins s σ H x y v u Q I rx ry h
  obtain ⟨F, dx, dy, d, fh, hx, hy, e, k⟩ := h
  unfold D.add at e
  split at e
  · cases e
    exact op_add pins s σ H _ _ v u Q I rx ry ⟨_, _, hx.int, hy.int, k F H _ (Ext.refl fh) (.int _)⟩
  · split at e
    · rename_i hl
      cases e
      exact op_add_str pins s σ H _ _ v u Q I rx ry ⟨_, _, hx.str, hy.str, lim_line hl, k F H _ (Ext.refl fh) (.str _)⟩
    · cases e
  · split at e
    · rename_i hl
      cases e
      obtain ⟨a, xs, rfl, f1, h1, l1⟩ := hx.tup fh
      obtain ⟨b, ys, rfl, f2, h2, l2⟩ := hy.tup fh
      rw [← l1.len, ← l2.len] at hl
      refine op_catA pins s σ H _ _ v u Q I rx ry ⟨a, b, xs, ys, rfl, rfl, SqT.of h1, SqT.of h2, lim_line hl, fun z => ?_, fun _ z => ?_, fun _ _ => tup_new fh (l1.app l2) k⟩
      · subst z; cases l1
        exact k F H _ (Ext.refl fh) (.tup f2 l2)
      · subst z; cases l2
        exact k F H _ (Ext.refl fh) (by rw [List.append_nil]; exact .tup f1 l1)
    · cases e
  · split at e
    · rename_i hl
      cases e
      obtain ⟨a, xs, rfl, h1, l1⟩ := hx.lst fh
      obtain ⟨b, ys, rfl, h2, l2⟩ := hy.lst fh
      rw [← l1.len, ← l2.len] at hl
      exact op_cat pins s σ H _ _ v u Q I rx ry ⟨a, b, xs, ys, rfl, rfl, h1, h2, lim_line hl, lst_new fh (l1.app l2) k⟩
    · cases e
  · cases e
theorem opm_sub : OpM X (binaryOp .Sub) D.sub := by
  intro pins s σ H x y v u Q I rx ry h
  obtain ⟨F, dx, dy, d, fh, hx, hy, e, k⟩ := h
  unfold D.sub at e
  split at e
  · cases e
    exact op_sub pins s σ H _ _ v u Q I rx ry ⟨_, _, hx.int, hy.int, k F H _ (Ext.refl fh) (.int _)⟩
  · cases e
theorem smallI_ok {i : Int} (h : smallI i = true) : -(2 ^ 64) < i ∧ i < 2 ^ 64 := by
  unfold smallI at h
  simp only [Bool.and_eq_true, decide_eq_true_eq] at h
  exact h
theorem DatL.rep {K : PySem.W.Frag} {mg : Str → Option Value} {F : Hp} {xs : List V} {ds : List D} (l : DatL K mg F xs ds) : ∀ n : Nat, DatL K mg F (List.replicate n xs).flatten (List.replicate n ds).flatten
  | 0 => .nil
  | n + 1 => by
    rw [List.replicate_succ, List.replicate_succ, List.flatten_cons, List.flatten_cons]
    exact l.app (l.rep n)
theorem opm_mul : OpM X (binaryOp .Mult) D.mul := by
  intro pins s σ H x y v u Q I rx ry h
  obtain ⟨F, dx, dy, d, fh, hx, hy, e, k⟩ := h
  unfold D.mul at e
  split at e
  · split at e
    · rename_i hc
      cases e
      refine op_mul pins s σ H _ _ v u Q I rx ry ⟨_, _, hx.int, hy.int, ?_, k F H _ (Ext.refl fh) (.int _)⟩
      rcases Bool.or_eq_true_iff.mp hc with z | z
      · exact .inl (smallI_ok z)
      · exact .inr (smallI_ok z)
    · cases e
  · split at e
    · cases e
    · rename_i hc
      cases e
      obtain ⟨a, xs, rfl, f1, h1, l1⟩ := hx.tup fh
      simp only [Bool.or_eq_true, decide_eq_true_eq, not_or, Nat.not_lt, Int.not_lt] at hc
      obtain ⟨⟨⟨c1, c2⟩, c3⟩, c4⟩ := hc
      refine op_repT pins s σ H _ _ v u Q I rx ry ⟨a, _, xs, rfl, hy.int, SqT.of h1, fun z => ?_, c2, c3, by rw [l1.len]; exact c4, tup_new fh (l1.rep _) k⟩
      subst z; cases l1; exact c1 rfl
  · split at e
    · cases e
    · rename_i hc
      cases e
      obtain ⟨a, xs, rfl, h1, l1⟩ := hx.lst fh
      simp only [Bool.or_eq_true, decide_eq_true_eq, not_or, Nat.not_lt, Int.not_lt] at hc
      obtain ⟨⟨c2, c3⟩, c4⟩ := hc
      rw [← l1.len] at c4
      refine op_rep pins s σ H _ _ v u Q I rx ry ⟨a, _, xs, rfl, hy.int, h1, by omega, by omega, ?_, lst_new fh (l1.rep _) k⟩
      refine lim_line (Nat.le_trans (Nat.mul_le_mul c4 (show _ ≤ 1000 by omega)) (by decide))
  · cases e
theorem opm_mod : OpM X (binaryOp .Mod) D.mod := by
  intro pins s σ H x y v u Q I rx ry h
  obtain ⟨F, dx, dy, d, fh, hx, hy, e, k⟩ := h
  unfold D.mod at e
  split at e
  · split at e
    · rename_i hc
      cases e
      exact op_mod pins s σ H _ _ v u Q I rx ry ⟨_, _, hx.int, hy.int, hc, k F H _ (Ext.refl fh) (.int _)⟩
    · cases e
  · cases e
theorem opm_fdiv : OpM X (binaryOp .FloorDiv) D.fdiv := by
  intro pins s σ H x y v u Q I rx ry h
  obtain ⟨F, dx, dy, d, fh, hx, hy, e, k⟩ := h
  unfold D.fdiv at e
  split at e
  · split at e
    · rename_i hc
      cases e
      simp only [Bool.and_eq_true, decide_eq_true_eq] at hc
      exact op_fdiv pins s σ H _ _ v u Q I rx ry ⟨_, _, hx.int, hy.int, hc, k F H _ (Ext.refl fh) (.int _)⟩
    · cases e
  · cases e
theorem opm_pow : OpM X (binaryOp .Pow) D.pow := by
  intro pins s σ H x y v u Q I rx ry h
  obtain ⟨F, dx, dy, d, fh, hx, hy, e, k⟩ := h
  unfold D.pow at e
  split at e
  · split at e
    · rename_i hc
      cases e
      simp only [Bool.and_eq_true, decide_eq_true_eq] at hc
      exact op_pow pins s σ H _ _ v u Q I rx ry ⟨_, _, hx.int, hy.int, hc, k F H _ (Ext.refl fh) (.int _)⟩
    · cases e
  · cases e
theorem opm_lt : OpM X (compareOp .Lt) D.lt := by
  intro pins s σ H x y v u Q I rx ry h
  obtain ⟨F, dx, dy, d, fh, hx, hy, e, k⟩ := h
  unfold D.lt at e
  split at e
  · cases e
    exact op_lt pins s σ H _ _ v u Q I rx ry ⟨_, _, hx.int, hy.int, k F H _ (Ext.refl fh) (.bl _)⟩
  · cases e
theorem opm_le : OpM X (compareOp .LtE) D.le := by
  intro pins s σ H x y v u Q I rx ry h
  obtain ⟨F, dx, dy, d, fh, hx, hy, e, k⟩ := h
  unfold D.le at e
  split at e
  · cases e
    exact op_le pins s σ H _ _ v u Q I rx ry ⟨_, _, hx.int, hy.int, k F H _ (Ext.refl fh) (.bl _)⟩
  · cases e
theorem opm_gt : OpM X (compareOp .Gt) D.gt := by
  intro pins s σ H x y v u Q I rx ry h
  obtain ⟨F, dx, dy, d, fh, hx, hy, e, k⟩ := h
  unfold D.gt at e
  split at e
  · cases e
    exact op_gt pins s σ H _ _ v u Q I rx ry ⟨_, _, hx.int, hy.int, k F H _ (Ext.refl fh) (.bl _)⟩
  · cases e
theorem opm_ge : OpM X (compareOp .GtE) D.ge := by
  intro pins s σ H x y v u Q I rx ry h
  obtain ⟨F, dx, dy, d, fh, hx, hy, e, k⟩ := h
  unfold D.ge at e
  split at e
  · cases e
    exact op_ge pins s σ H _ _ v u Q I rx ry ⟨_, _, hx.int, hy.int, k F H _ (Ext.refl fh) (.bl _)⟩
  · cases e
theorem opm_eq (hu : X.A.units + 64 < cLine) : OpM X (compareOp .Eq) D.eq := by
  intro pins s σ H x y v u Q I rx ry h
  obtain ⟨F, dx, dy, d, fh, hx, hy, e, k⟩ := h
  unfold D.eq at e
  split at e
  · rename_i hc
    cases e
    obtain ⟨c1, c2⟩ := Bool.and_eq_true_iff.mp hc
    exact op_eqD hu pins s σ H _ _ v u Q I rx ry ⟨_, _, hx.dp fh (SeqAt.canLay_of_shaped c1), hy.dp fh (SeqAt.canLay_of_shaped c2), c1, c2, k F H _ (Ext.refl fh) (.bl _)⟩
  · cases e
theorem opm_ne (hu : X.A.units + 64 < cLine) : OpM X (compareOp .NotEq) D.ne := by
  intro pins s σ H x y v u Q I rx ry h
  obtain ⟨F, dx, dy, d, fh, hx, hy, e, k⟩ := h
  unfold D.ne at e
  split at e
  · rename_i hc
    cases e
    obtain ⟨c1, c2⟩ := Bool.and_eq_true_iff.mp hc
    exact op_neD hu pins s σ H _ _ v u Q I rx ry ⟨_, _, hx.dp fh (SeqAt.canLay_of_shaped c1), hy.dp fh (SeqAt.canLay_of_shaped c2), c1, c2, k F H _ (Ext.refl fh) (.bl _)⟩
  · cases e
theorem DatB.ne_non {K : PySem.W.Frag} {mg : Str → Option Value} {F H : Hp} {v : V} {d : D} (b : DatB K mg F H v d) (h : d ≠ .non) : v ≠ .non := fun z => by
  subst z
  rcases b with b | ⟨a, e, _⟩
  · cases b; exact h rfl
  · cases e
theorem opm_isN : OpM X (compareOp .Is) D.isN := by
  intro pins s σ H x y v u Q I rx ry h
  obtain ⟨F, dx, dy, d, fh, hx, hy, e, k⟩ := h
  unfold D.isN at e
  split at e
  · cases e
    refine op_isN pins s σ H _ _ v u Q I rx ry ⟨hy.non, ?_⟩
    rw [decide_eq_true hx.non]
    exact k F H _ (Ext.refl fh) (.bl _)
  · rename_i hn
    cases e
    refine op_isN pins s σ H _ _ v u Q I rx ry ⟨hy.non, ?_⟩
    rw [decide_eq_false (hx.ne_non fun z => hn z)]
    exact k F H _ (Ext.refl fh) (.bl _)
  · cases e
theorem opm_isNn : OpM X (compareOp .IsNot) D.isNn := by
  intro pins s σ H x y v u Q I rx ry h
  obtain ⟨F, dx, dy, d, fh, hx, hy, e, k⟩ := h
  unfold D.isNn at e
  split at e
  · cases e
    refine op_notN pins s σ H _ _ v u Q I rx ry ⟨hy.non, ?_⟩
    rw [decide_eq_true hx.non]
    exact k F H _ (Ext.refl fh) (.bl _)
  · rename_i hn
    cases e
    refine op_notN pins s σ H _ _ v u Q I rx ry ⟨hy.non, ?_⟩
    rw [decide_eq_false (hx.ne_non fun z => hn z)]
    exact k F H _ (Ext.refl fh) (.bl _)
  · cases e

/-! ### in -/
def D.flat : D → Bool
  | .non => true
  | .bl _ => true
  | .int _ => true
  | .str _ => true
  | _ => false
def D.inb (x : D) (ys : List D) : Bool := ys.any fun z => z.eqb x
def D.key : D → Option Key
  | .int i => some (.inl i)
  | .str x => some (.inr x)
  | _ => none
def D.keys : List D → Option (List Key)
  | [] => some []
  | d :: ds => match d.key, D.keys ds with
    | some k, some ks => some (k :: ks)
    | _, _ => none
/-- may it be a key of such a dict -/
def D.keyOk (t : Bool) (x : D) : Bool := match t, x with
  | false, .int _ => true
  | false, .str _ => true
  | true, .tup ds => (D.keys ds).isSome
  | _, _ => false
/-- data that are keys, the same -/
def D.same (x y : D) : Bool := match x, y with
  | .int i, .int j => decide (i = j)
  | .str i, .str j => decide (i = j)
  | .tup xs, .tup ys => decide (D.keys xs = D.keys ys)
  | _, _ => false
def D.find (x : D) : List (D × D) → Option D
  | [] => none
  | p :: r => if p.1.same x then some p.2 else D.find x r
def D.isIn (x y : D) : Option D := match y with
  | .lst ds => if SeqAt.shaped x.py && SeqAt.shaped (D.lst ds).py then some (.bl (x.inb ds)) else none
  | .tup ds => if x.flat && ds.all D.flat then some (.bl (x.inb ds)) else none
  | .str z => match x with
    | .str c => match c.cps.toList with
      | [n] => some (.bl (decide (n ∈ z.cps.toList)))
      | _ => none
    | _ => none
  | .dct t ps => if D.keyOk t x then some (.bl (D.find x ps).isSome) else none
  | _ => none
def D.notIn (x y : D) : Option D := match D.isIn x y with
  | some (.bl b) => some (.bl (!b))
  | _ => none

theorem flat_V {K : PySem.W.Frag} {mg : Str → Option Value} {F H : Hp} {v : V} {d : D} (b : DatB K mg F H v d) (h : d.flat = true) : flatV v = true := by
  cases d with
  | non => rw [b.non]; rfl
  | bl x => rw [b.bl]; rfl
  | int x => rw [b.int]; rfl
  | str x => rw [b.str]; rfl
  | _ => cases h
theorem eqb_V {K : PySem.W.Frag} {mg : Str → Option Value} {F H F' H' : Hp} {v w : V} {d e : D} (b : DatB K mg F H v d) (c : DatB K mg F' H' w e) (h : d.flat = true) (h' : e.flat = true) : eqV v w = d.eqb e := by
  cases d with
  | non => rw [b.non]; cases e with
    | non => rw [c.non]; simp [eqV, D.eqb, D.py, PyData.eqv]
    | bl x => rw [c.bl]; simp [eqV, D.eqb, D.py, PyData.eqv]
    | int x => rw [c.int]; simp [eqV, D.eqb, D.py, PyData.eqv]
    | str x => rw [c.str]; simp [eqV, D.eqb, D.py, PyData.eqv]
    | _ => cases h'
  | bl x => rw [b.bl]; cases e with
    | non => rw [c.non]; simp [eqV, D.eqb, D.py, PyData.eqv]
    | bl x => rw [c.bl]; simp [eqV, D.eqb, D.py, PyData.eqv]
    | int x => rw [c.int]; simp [eqV, D.eqb, D.py, PyData.eqv]
    | str x => rw [c.str]; simp [eqV, D.eqb, D.py, PyData.eqv]
    | _ => cases h'
  | int x => rw [b.int]; cases e with
    | non => rw [c.non]; simp [eqV, D.eqb, D.py, PyData.eqv]
    | bl x => rw [c.bl]; simp [eqV, D.eqb, D.py, PyData.eqv]
    | int x => rw [c.int]; simp [eqV, D.eqb, D.py, PyData.eqv]
    | str x => rw [c.str]; simp [eqV, D.eqb, D.py, PyData.eqv]
    | _ => cases h'
  | str x => rw [b.str]; cases e with
    | non => rw [c.non]; simp [eqV, D.eqb, D.py, PyData.eqv]
    | bl x => rw [c.bl]; simp [eqV, D.eqb, D.py, PyData.eqv]
    | int x => rw [c.int]; simp [eqV, D.eqb, D.py, PyData.eqv]
    | str x => rw [c.str]; simp [eqV, D.eqb, D.py, PyData.eqv]
    | _ => cases h'
  | _ => cases h
theorem flat_Vs {K : PySem.W.Frag} {mg : Str → Option Value} {F : Hp} : ∀ {vs : List V} {ds : List D}, DatL K mg F vs ds → ds.all D.flat = true → vs.all flatV = true
  | _, _, .nil, _ => rfl
  | _, _, .cons h l, e => by
    rw [List.all_cons, Bool.and_eq_true] at e ⊢
    exact ⟨flat_V (H := F) (.inl h) e.1, flat_Vs l e.2⟩
theorem inb_V {K : PySem.W.Frag} {mg : Str → Option Value} {F F' H' : Hp} {w : V} {e : D} (c : DatB K mg F' H' w e) (h' : e.flat = true) : ∀ {vs : List V} {ds : List D}, DatL K mg F vs ds → ds.all D.flat = true → inV w vs = e.inb ds
  | _, _, .nil, _ => rfl
  | _, _, .cons h l, z => by
    rw [List.all_cons, Bool.and_eq_true] at z
    have ih := inb_V c h' l z.2
    unfold inV D.inb at ih ⊢
    rw [List.any_cons, List.any_cons, ih, eqb_V (H := F) (.inl h) c z.1 h']
theorem eqvb_pys (x : D) : ∀ ds : List D, ((D.pys ds).any fun z => PyData.eqv z x.py) = x.inb ds
  | [] => rfl
  | d :: ds => by
    have ih := eqvb_pys x ds
    unfold D.inb at ih ⊢
    rw [D.pys, List.any_cons, List.any_cons, ih]
    rfl

/-! ### dicts -/
theorem keyD_same (k : Key) {x : D} {j : Key} (h : D.key x = some j) : (keyD k).same x = decide (k = j) := by
  cases x with
  | int i => cases h; cases k with
    | inl n => by_cases e : n = i <;> simp [keyD, D.same, e]
    | inr n => simp [keyD, D.same]
  | str i => cases h; cases k with
    | inl n => simp [keyD, D.same]
    | inr n => by_cases e : n = i <;> simp [keyD, D.same, e]
  | _ => cases h
theorem D.key_keyD (k : Key) : D.key (keyD k) = some k := by cases k <;> rfl
theorem D.keys_map : ∀ ks : List Key, D.keys (ks.map keyD) = some ks
  | [] => rfl
  | k :: ks => by simp only [List.map_cons, D.keys, D.key_keyD, D.keys_map ks]
theorem keyD_sameT (k : List Key) {xs : List D} {j : List Key} (h : D.keys xs = some j) : (D.tup (k.map keyD)).same (.tup xs) = decide (k = j) := by
  show decide (D.keys (k.map keyD) = D.keys xs) = _
  rw [D.keys_map, h]
  by_cases e : k = j <;> simp [e]
theorem find_K {K : PySem.W.Frag} {mg : Str → Option Value} {F : Hp} {x : D} {j : Key} (h : D.key x = some j) : ∀ {kvs : List (Key × V)} {ps : List (D × D)}, DatK K mg F kvs ps →
    (valV kvs j = none ∧ D.find x ps = none) ∨ ∃ v d, valV kvs j = some v ∧ D.find x ps = some d ∧ Dat K mg F v d
  | _, _, .nil => .inl ⟨rfl, rfl⟩
  | _, _, .cons (k := k) (v := v) (d := d) hv l => by
    unfold D.find
    rw [keyD_same k h]
    by_cases e : k = j
    · rw [if_pos (decide_eq_true e), valV_pos e]
      exact .inr ⟨v, d, rfl, rfl, hv⟩
    · rw [if_neg (by rw [decide_eq_false e]; exact Bool.false_ne_true), valV_neg e]
      exact find_K h l
theorem find_T {K : PySem.W.Frag} {mg : Str → Option Value} {F : Hp} {xs : List D} {j : List Key} (h : D.keys xs = some j) : ∀ {kvs : List (List Key × V)} {ps : List (D × D)}, DatT K mg F kvs ps →
    (valV kvs j = none ∧ D.find (.tup xs) ps = none) ∨ ∃ v d, valV kvs j = some v ∧ D.find (.tup xs) ps = some d ∧ Dat K mg F v d
  | _, _, .nil => .inl ⟨rfl, rfl⟩
  | _, _, .cons (k := k) (v := v) (d := d) hv l => by
    unfold D.find
    rw [keyD_sameT k h]
    by_cases e : k = j
    · rw [if_pos (decide_eq_true e), valV_pos e]
      exact .inr ⟨v, d, rfl, rfl, hv⟩
    · rw [if_neg (by rw [decide_eq_false e]; exact Bool.false_ne_true), valV_neg e]
      exact find_T h l
theorem key_V {K : PySem.W.Frag} {mg : Str → Option Value} {F H : Hp} {v : V} {x : D} {j : Key} (b : DatB K mg F H v x) (h : D.key x = some j) : v = kV j := by
  cases x with
  | int i => cases h; rw [b.int]; rfl
  | str i => cases h; rw [b.str]; rfl
  | _ => cases h
theorem keys_V {K : PySem.W.Frag} {mg : Str → Option Value} {F : Hp} : ∀ {vs : List V} {xs : List D} {j : List Key}, DatL K mg F vs xs → D.keys xs = some j → vs = j.map kV
  | _, _, _, .nil, h => by cases h; rfl
  | _, _, _, .cons (d := d) (ds := ds) hv l, h => by
    unfold D.keys at h
    split at h
    · rename_i k ks h1 h2
      cases h
      rw [key_V (H := F) (.inl hv) h1, keys_V l h2]
      rfl
    · cases h
/-- what a dict holds under a key that may be one -/
theorem DatB.get {K : PySem.W.Frag} {mg : Str → Option Value} {F H : Hp} {v w : V} {t : Bool} {x : D} {ps : List (D × D)} (fh : Same F H) (b : DatB K mg F H v (.dct t ps)) (c : DatB K mg F H w x) (h : D.keyOk t x = true) : ∃ a, v = .ref a ∧ ((DGet H a w none ∧ D.find x ps = none) ∨ ∃ u d, DGet H a w (some u) ∧ D.find x ps = some d ∧ Dat K mg F u d) := by
  cases t with
  | false =>
    obtain ⟨a, kvs, rfl, r, l⟩ := b.dctK fh
    obtain ⟨j, hj⟩ : ∃ j, D.key x = some j := by
      cases x with
      | int i => exact ⟨_, rfl⟩
      | str i => exact ⟨_, rfl⟩
      | _ => cases h
    have e := key_V c hj
    subst e
    refine ⟨a, rfl, ?_⟩
    rcases find_K hj l with ⟨h1, h2⟩ | ⟨u, d, h1, h2, h3⟩
    · exact .inl ⟨.inl ⟨kvs, j, r, rfl, h1.symm⟩, h2⟩
    · exact .inr ⟨u, d, .inl ⟨kvs, j, r, rfl, h1.symm⟩, h2, h3⟩
  | true =>
    obtain ⟨a, kvs, rfl, r, l⟩ := b.dctT fh
    cases x with
    | tup xs =>
      obtain ⟨j, hj⟩ : ∃ j, D.keys xs = some j := Option.isSome_iff_exists.mp h
      obtain ⟨b, ys, rfl, _, h2', l2⟩ := c.tup fh
      have e := keys_V l2 hj
      subst e
      refine ⟨a, rfl, ?_⟩
      rcases find_T hj l with ⟨h1, h2⟩ | ⟨u, d, h1, h2, h3⟩
      · exact .inl ⟨.inr ⟨kvs, j, b, r, rfl, h2', h1.symm⟩, h2⟩
      · exact .inr ⟨u, d, .inr ⟨kvs, j, b, r, rfl, h2', h1.symm⟩, h2, h3⟩
    | _ => cases h

theorem opm_in (hu : X.A.units + 65 < cLine) : OpM X (compareOp .In) D.isIn := by
  intro pins s σ H x y v u Q I rx ry h
  obtain ⟨F, dx, dy, d, fh, hx, hy, e, k⟩ := h
  unfold D.isIn at e
  split at e
  · split at e
    · rename_i hc
      cases e
      obtain ⟨c1, c2⟩ := Bool.and_eq_true_iff.mp hc
      refine op_inD hu pins s σ H _ _ v u Q I rx ry ⟨_, _, hx.dp fh (SeqAt.canLay_of_shaped c1), hy.dp fh (SeqAt.canLay_of_shaped c2), c1, c2, ?_⟩
      rw [eqvb_pys]
      exact k F H _ (Ext.refl fh) (.bl _)
    · cases e
  · split at e
    · rename_i hc
      cases e
      obtain ⟨c1, c2⟩ := Bool.and_eq_true_iff.mp hc
      obtain ⟨b, ys, rfl, _, h2, l2⟩ := hy.tup fh
      refine op_in_seq pins s σ H _ _ v u Q I rx ry ⟨b, ys, rfl, .inr (SqT.of h2), flat_V hx c1, flat_Vs l2 c2, ?_⟩
      rw [if_neg Bool.false_ne_true, inb_V hx c1 l2 c2]
      exact k F H _ (Ext.refl fh) (.bl _)
    · cases e
  · split at e
    · split at e
      · rename_i z _ c _ n hn
        cases e
        have ec : c = ⟨#[n]⟩ := Str.ext' (Array.toList_inj.mp hn)
        subst ec
        exact op_in_sign pins s σ H _ _ v u Q I rx ry ⟨n, z, hx.str, hy.str, k F H _ (Ext.refl fh) (.bl _)⟩
      · cases e
    · cases e
  · split at e
    · rename_i hc
      cases e
      obtain ⟨a, rfl, h⟩ := hy.get fh hx hc
      cases ry
      rcases h with ⟨g, e⟩ | ⟨z, d, g, e, _⟩
      · rw [e] at k
        exact d_in (by omega) I g rx fun s' I' => ⟨.bl false, H, I', rfl, k F H _ (Ext.refl fh) (.bl _)⟩
      · rw [e] at k
        exact d_in (by omega) I g rx fun s' I' => ⟨.bl true, H, I', rfl, k F H _ (Ext.refl fh) (.bl _)⟩
    · cases e
  · cases e
theorem opm_notIn (hu : X.A.units + 65 < cLine) : OpM X (compareOp .NotIn) D.notIn := by
  intro pins s σ H x y v u Q I rx ry h
  obtain ⟨F, dx, dy, d, fh, hx, hy, e, k⟩ := h
  unfold D.notIn at e
  split at e
  · rename_i b e'
    cases e
    unfold D.isIn at e'
    split at e'
    · split at e'
      · rename_i hc
        cases e'
        obtain ⟨c1, c2⟩ := Bool.and_eq_true_iff.mp hc
        refine op_notInD hu pins s σ H _ _ v u Q I rx ry ⟨_, _, hx.dp fh (SeqAt.canLay_of_shaped c1), hy.dp fh (SeqAt.canLay_of_shaped c2), c1, c2, ?_⟩
        rw [eqvb_pys]
        exact k F H _ (Ext.refl fh) (.bl _)
      · cases e'
    · split at e'
      · rename_i hc
        cases e'
        obtain ⟨c1, c2⟩ := Bool.and_eq_true_iff.mp hc
        obtain ⟨b, ys, rfl, _, h2, l2⟩ := hy.tup fh
        refine op_notIn_seq pins s σ H _ _ v u Q I rx ry ⟨b, ys, rfl, .inr (SqT.of h2), flat_V hx c1, flat_Vs l2 c2, ?_⟩
        rw [if_pos rfl, inb_V hx c1 l2 c2]
        exact k F H _ (Ext.refl fh) (.bl _)
      · cases e'
    · split at e'
      · split at e'
        · rename_i z _ c _ n hn
          cases e'
          have ec : c = ⟨#[n]⟩ := Str.ext' (Array.toList_inj.mp hn)
          subst ec
          exact op_notIn_sign pins s σ H _ _ v u Q I rx ry ⟨n, z, hx.str, hy.str, k F H _ (Ext.refl fh) (.bl _)⟩
        · cases e'
      · cases e'
    · split at e'
      · rename_i hc
        cases e'
        obtain ⟨a, rfl, h⟩ := hy.get fh hx hc
        cases ry
        rcases h with ⟨g, e⟩ | ⟨z, d, g, e, _⟩
        · rw [e] at k
          exact d_notIn (by omega) I g rx fun s' I' => ⟨.bl true, H, I', rfl, k F H _ (Ext.refl fh) (.bl _)⟩
        · rw [e] at k
          exact d_notIn (by omega) I g rx fun s' I' => ⟨.bl false, H, I', rfl, k F H _ (Ext.refl fh) (.bl _)⟩
      · cases e'
    · cases e'
  · cases e

/-! ### places, slices, lengths, truth -/
def D.idx (x y : D) : Option D := match x, y with
  | .lst ds, .int i => atI ds i
  | .tup ds, .int i => atI ds i
  | .scr ns, .int i => (atI ns i).map D.int
  | .str z, .int i => if z.length ≤ lim then (atI z.cps.toList i).map fun c => .str ⟨#[c]⟩ else none
  | .dct t ps, k => if D.keyOk t k then D.find k ps else none
  | _, _ => none
theorem atI_dat {K : PySem.W.Frag} {mg : Str → Option Value} {F : Hp} {xs : List V} {ds : List D} {i : Int} {d : D} (l : DatL K mg F xs ds) (h : atI ds i = some d) : ∃ v, atI xs i = some v ∧ Dat K mg F v d := by
  unfold atI at h ⊢
  rw [l.len]
  cases e : ixN ds.length i with
  | none => rw [e] at h; cases h
  | some j =>
    rw [e] at h
    exact l.getD h
theorem ixm_any (hu : X.A.units + 65 < cLine) : IxR X (rM X.K X.mg D.idx) := by
  intro value slice pins s σ H x y v u Q I rx ry h hs
  obtain ⟨F, dx, dy, d, fh, hx, hy, e, k⟩ := h
  unfold D.idx at e
  split at e
  · obtain ⟨a, xs, rfl, h1, l1⟩ := hx.lst fh
    obtain ⟨w, h2, h3⟩ := atI_dat l1 e
    exact ix_list value slice pins s σ H _ _ v u Q I rx ry ⟨a, xs, _, w, rfl, hy.int, SqL.of h1, h2, k F H _ (Ext.refl fh) h3⟩ hs
  · obtain ⟨a, xs, rfl, _, h1, l1⟩ := hx.tup fh
    obtain ⟨w, h2, h3⟩ := atI_dat l1 e
    exact ix_tup value slice pins s σ H _ _ v u Q I rx ry ⟨a, xs, _, w, rfl, hy.int, SqT.of h1, h2, k F H _ (Ext.refl fh) h3⟩ hs
  · rename_i ns i
    obtain ⟨a, rfl, h1⟩ := hx.scr fh
    cases q : atI ns i with
    | none => rw [q] at e; cases e
    | some n =>
      rw [q] at e; cases e
      have q' : atI (ns.map V.int) i = some (V.int n) := by
        unfold atI at q ⊢
        rw [List.length_map]
        cases z : ixN ns.length i with
        | none => rw [z] at q; cases q
        | some j =>
          rw [z] at q
          have q2 : ns[j]? = some n := q
          show (ns.map V.int)[j]? = _
          rw [List.getElem?_map, q2]
          rfl
      exact ix_list value slice pins s σ H _ _ v u Q I rx ry ⟨a, _, _, _, rfl, hy.int, h1, q', k F H _ (Ext.refl fh) (.int _)⟩ hs
  · split at e
    · rename_i z i hl
      cases q : atI z.cps.toList i with
      | none => rw [q] at e; cases e
      | some n =>
        rw [q] at e; cases e
        exact ix_str value slice pins s σ H _ _ v u Q I rx ry ⟨z, _, n, hx.str, hy.int, lim_line hl, q, k F H _ (Ext.refl fh) (.str _)⟩ hs
    · cases e
  · split at e
    · rename_i hc
      obtain ⟨a, rfl, h⟩ := hx.get fh hy hc
      cases rx
      rcases h with ⟨g, e'⟩ | ⟨z, d', g, e', hz⟩
      · rw [e'] at e; cases e
      · rw [e'] at e; cases e
        exact tail_any (dict_typeIs I g) PySem.F.slot_dict_getitem.lookup (d_getItem (by omega) I g ry fun w' s3 I3 rw' => ⟨z, H, I3, rw', k F H _ (Ext.refl fh) hz⟩) hs
    · cases e
  · cases e
/-- x[lo:hi] -/
def cutD (ds : List D) (lo hi : Option Int) : List D := (ds.drop (HT.sIx ds.length 0 lo)).take (HT.sIx ds.length ds.length hi - HT.sIx ds.length 0 lo)
def D.slice (x : D) (lo hi : Option Int) : Option D := match x with
  | .lst ds => some (.lst (cutD ds lo hi))
  | .tup ds => some (.tup (cutD ds lo hi))
  | .str z => if z.length ≤ lim then some (.str (cutS z lo hi)) else none
  | _ => none
theorem cut_dat {K : PySem.W.Frag} {mg : Str → Option Value} {F : Hp} {xs : List V} {ds : List D} (l : DatL K mg F xs ds) (lo hi : Option Int) : DatL K mg F (cutV xs lo hi) (cutD ds lo hi) := by
  unfold cutV cutD
  rw [l.len]
  exact (l.drop _).take _
def rSlM (K : PySem.W.Frag) (mg : Str → Option Value) : V → Option Int → Option Int → Hp → VK → Prop := fun x lo hi H Q => ∃ F dx d, Same F H ∧ DatB K mg F H x dx ∧ D.slice dx lo hi = some d ∧ ∀ F' H' v, Ext F H F' H' → Dat K mg F' v d → Q v H'
theorem cutD_whole {ds : List D} {lo hi : Option Int} (h : HT.sIx ds.length 0 lo = 0 ∧ HT.sIx ds.length ds.length hi = ds.length) : cutD ds lo hi = ds := by
  unfold cutD
  rw [h.1, h.2]
  simp
theorem slm_any : SlR X (rSlM X.K X.mg) := by
  intro pins s σ H x v vl vu lo hi sl Q I rx hs pl pu h
  obtain ⟨F, dx, d, fh, hx, e, k⟩ := h
  unfold D.slice at e
  split at e
  · cases e
    obtain ⟨a, xs, rfl, h1, l1⟩ := hx.lst fh
    exact sl_list pins s σ H _ v vl vu lo hi sl Q I rx hs pl pu ⟨a, xs, rfl, SqL.of h1, lst_new fh (cut_dat l1 lo hi) k⟩
  · cases e
    obtain ⟨a, xs, rfl, f1, h1, l1⟩ := hx.tup fh
    refine sl_tupA pins s σ H _ v vl vu lo hi sl Q I rx hs pl pu ⟨a, xs, rfl, SqT.of h1, fun z => ?_, fun _ => tup_new fh (cut_dat l1 lo hi) k⟩
    rw [l1.len] at z
    exact k F H _ (Ext.refl fh) (by rw [cutD_whole z]; exact .tup f1 l1)
  · split at e
    · rename_i hl
      cases e
      exact sl_str pins s σ H _ v vl vu lo hi sl Q I rx hs pl pu ⟨_, hx.str, lim_line hl, k F H _ (Ext.refl fh) (.str _)⟩
    · cases e
  · cases e
def D.len (x : D) : Option D := match x with
  | .lst ds => some (.int ds.length)
  | .tup ds => some (.int ds.length)
  | .scr ns => some (.int ns.length)
  | .str z => if z.length ≤ lim then some (.int z.length) else none
  | .dct false ps => some (.int ps.length)
  | _ => none
def D.truth (x : D) : Option Bool := match x with
  | .non => some false
  | .bl b => some b
  | .int i => some (i != 0)
  | .str z => if z.length ≤ lim then some ((z.length : Int) != 0) else none
  | .lst ds => some (!ds.isEmpty)
  | .tup ds => some (!ds.isEmpty)
  | _ => none
theorem DatL.isEmpty {K : PySem.W.Frag} {mg : Str → Option Value} {F : Hp} {xs : List V} {ds : List D} (l : DatL K mg F xs ds) : xs.isEmpty = ds.isEmpty := by cases l <;> rfl
theorem DatB.truth {K : PySem.W.Frag} {mg : Str → Option Value} {F H : Hp} {v : V} {d : D} {b : Bool} (fh : Same F H) (h : DatB K mg F H v d) (e : D.truth d = some b) : TruV K v H b := by
  cases d with
  | non => cases e; rw [h.non]; rfl
  | bl x => cases e; rw [h.bl]; rfl
  | int x => cases e; rw [h.int]; rfl
  | str z =>
    have e' : (if z.length ≤ lim then some ((z.length : Int) != 0) else none) = some b := e
    rw [h.str]
    by_cases hl : z.length ≤ lim
    · rw [if_pos hl] at e'
      cases e'
      exact ⟨lim_line hl, rfl⟩
    · rw [if_neg hl] at e'
      cases e'
  | lst ds =>
    cases e
    obtain ⟨a, xs, rfl, h1, l1⟩ := h.lst fh
    exact .inl ⟨xs, SqL.of h1, by rw [l1.isEmpty]⟩
  | tup ds =>
    cases e
    obtain ⟨a, xs, rfl, _, h1, l1⟩ := h.tup fh
    exact .inr (.inl ⟨xs, SqT.of h1, by rw [l1.isEmpty]⟩)
  | _ => cases e
end
end L2.Pv

set_option Elab.async false
set_option linter.all false
set_option maxRecDepth 100000
set_option maxHeartbeats 4000000
set_option autoImplicit false
/-! Expressions as functions of the slots' data. -/
namespace L2.Pv
open PySem PySem.Spec PyProof.Rows

abbrev EM := Env → R D
abbrev TM := Env → R Bool
abbrev AM := Env → R (List D)
/-- a computation's end: k of its value, W of its exception -/
def Got (mg : Str → Option Value) (W : WX) (F H : Hp) (σ : St) {α : Type} (r : R α) (k : α → Prop) : Prop := match r with
  | .ok a => k a
  | .ex c => ∀ F' H' C, Ext F H F' H' → mg c = some (Value.ref C) → W (.ref C) none σ H'
  | .no => False
section
variable {mg : Str → Option Value} {W : WX} {F H F1 H1 : Hp} {σ : St} {α β : Type} {r : R α} {f : α → R β} {k : α → Prop} {k' : β → Prop}
theorem Got.bind (h : Got mg W F H σ (r.bind f) k') : Got mg W F H σ r fun a => Got mg W F H σ (f a) k' := by
  cases r with
  | ok a => exact h
  | ex c => exact h
  | no => exact h
theorem Got.imp {k2 : α → Prop} (h : Got mg W F H σ r k) (i : ∀ a, k a → k2 a) : Got mg W F H σ r k2 := by
  cases r with
  | ok a => exact i a h
  | ex c => exact h
  | no => exact h
theorem Got.move (h : Got mg W F H σ r k) (x : Ext F H F1 H1) : Got mg W F1 H1 σ r k := by
  cases r with
  | ok a => exact h
  | ex c => exact fun F' H' C y => h F' H' C (x.trans y)
  | no => exact h
end
/-- an Option as a computation -/
def R.of {α : Type} (o : Option α) : R α := match o with
  | some a => .ok a
  | none => .no
@[simp] theorem R.of_some {α : Type} (a : α) : R.of (some a) = .ok a := nr rfl
@[simp] theorem R.of_none {α : Type} : R.of (none : Option α) = .no := nr rfl
theorem Got.of {mg : Str → Option Value} {W : WX} {F H : Hp} {σ : St} {α : Type} {o : Option α} {k : α → Prop} (h : Got mg W F H σ (R.of o) k) : ∃ a, o = some a ∧ k a := by
  cases o with
  | some a => exact ⟨a, rfl, h⟩
  | none => exact False.elim h

section
variable (K : PySem.W.Frag) (mg : Str → Option Value)
inductive DatBL (F H : Hp) : List V → List D → Prop
  | nil : DatBL F H [] []
  | cons {v : V} {vs : List V} {d : D} {ds : List D} : DatB K mg F H v d → DatBL F H vs ds → DatBL F H (v :: vs) (d :: ds)
variable (F0 H0 : Hp) (W : WX)
/-- the readings -/
def tE (m : EM) : TE := fun σ H Q => ∃ F ρ, Rel K mg F0 H0 F σ H ρ ∧ Got mg W F H σ (m ρ) fun d => ∀ F' H' v, Ext F H F' H' → Dat K mg F' v d → Q v H'
def tEb (m : EM) : TE := fun σ H Q => ∃ F ρ, Rel K mg F0 H0 F σ H ρ ∧ Got mg W F H σ (m ρ) fun d => ∀ F' H' v, Ext F H F' H' → DatB K mg F' H' v d → Q v H'
def tEf (m : EM) : TE := fun σ H Q => ∃ F ρ, Rel K mg F0 H0 F σ H ρ ∧ Got mg W F H σ (m ρ) fun d => ∀ F' H' a, Ext F H F' H' → F' a = none → H a = none → OwnAt K mg F' H' a d → Q (.ref a) H'
def tTm (m : TM) : TT := fun σ H Q => ∃ F ρ, Rel K mg F0 H0 F σ H ρ ∧ Got mg W F H σ (m ρ) fun b => ∀ F' H', Ext F H F' H' → Q b H'
def tAm (m : AM) : TA := fun σ H Q => ∃ F ρ, Rel K mg F0 H0 F σ H ρ ∧ Got mg W F H σ (m ρ) fun ds => ∀ F' H' vs, Ext F H F' H' → DatL K mg F' vs ds → Q vs H'
def tAb (m : AM) : TA := fun σ H Q => ∃ F ρ, Rel K mg F0 H0 F σ H ρ ∧ Got mg W F H σ (m ρ) fun ds => ∀ F' H' vs, Ext F H F' H' → DatBL K mg F' H' vs ds → Q vs H'
end
def PEm (X : Cx) (F0 H0 : Hp) (W : WX) (e : Expr) (m : EM) : Prop := PE X e (tE X.K X.mg F0 H0 W m)
def PBm (X : Cx) (F0 H0 : Hp) (W : WX) (e : Expr) (m : EM) : Prop := PE X e (tEb X.K X.mg F0 H0 W m)
def PFm (X : Cx) (F0 H0 : Hp) (W : WX) (e : Expr) (m : EM) : Prop := PE X e (tEf X.K X.mg F0 H0 W m)
def PTm (X : Cx) (F0 H0 : Hp) (W : WX) (e : Expr) (m : TM) : Prop := PT X e (tTm X.K X.mg F0 H0 W m)
def PWm (X : Cx) (F0 H0 : Hp) (W : WX) (e : Expr) (m : TM) : Prop := PW X e (tTm X.K X.mg F0 H0 W m)
/-- one after the other -/
def aAll : List EM → AM
  | [] => fun _ => .ok []
  | m :: ms => fun ρ => (m ρ).bind fun d => (aAll ms ρ).bind fun ds => .ok (d :: ds)
theorem aAll_len : ∀ {ms : List EM} {ρ : Env} {ds : List D}, aAll ms ρ = .ok ds → ds.length = ms.length
  | [], _, _, h => by cases h; rfl
  | m :: ms, ρ, ds, h => by
    unfold aAll at h
    cases e : m ρ with
    | ok d =>
      rw [e] at h
      cases e2 : aAll ms ρ with
      | ok es =>
        rw [e2] at h
        cases h
        show es.length + 1 = ms.length + 1
        rw [aAll_len e2]
      | ex c => rw [e2] at h; cases h
      | no => rw [e2] at h; cases h
    | ex c => rw [e] at h; cases h
    | no => rw [e] at h; cases h
def PAm (X : Cx) (F0 H0 : Hp) (W : WX) (es : List Expr) (ms : List EM) : Prop := PA X es (tAm X.K X.mg F0 H0 W (aAll ms))
def PAb (X : Cx) (F0 H0 : Hp) (W : WX) (es : List Expr) (ms : List EM) : Prop := PA X es (tAb X.K X.mg F0 H0 W (aAll ms))

section
variable {X : Cx} {F0 H0 : Hp} {W : WX} {e a b c : Expr} {m ma mb : EM} {es : List Expr} {ms : List EM} {pos : Pos}
theorem PE.imp {t t' : TE} (h : PE X e t) (f : ∀ σ H Q, t' σ H Q → t σ H Q) : PE X e t' := ⟨fun pins s σ H Q I q => h.run pins s σ H Q I (f σ H Q q)⟩
theorem PT.imp {t t' : TT} (h : PT X e t) (f : ∀ σ H Q, t' σ H Q → t σ H Q) : PT X e t' := ⟨fun pins s σ H Q I q => h.run pins s σ H Q I (f σ H Q q)⟩
theorem PW.imp {t t' : TT} (h : PW X e t) (f : ∀ σ H Q, t' σ H Q → t σ H Q) : PW X e t' := ⟨fun wh pins s σ H Q I q => h.run wh pins s σ H Q I (f σ H Q q)⟩
theorem PA.imp {t t' : TA} (h : PA X es t) (f : ∀ σ H Q, t' σ H Q → t σ H Q) : PA X es t' := ⟨fun pos pins s σ H Q I q => h.run pos pins s σ H Q I (f σ H Q q)⟩
theorem PEm.bo (h : PEm X F0 H0 W e m) : PBm X F0 H0 W e m := PE.imp h fun σ H Q ⟨F, ρ, r, g⟩ => ⟨F, ρ, r, g.imp fun d k F' H' v x q => k F' H' v x (.inl q)⟩
theorem PFm.bo (h : PFm X F0 H0 W e m) : PBm X F0 H0 W e m := PE.imp h fun σ H Q ⟨F, ρ, r, g⟩ => ⟨F, ρ, r, g.imp fun d k F' H' a x n n0 o => k F' H' _ x (.inr ⟨a, rfl, n, o⟩)⟩
theorem PFm.em (h : PFm X F0 H0 W e m) : PEm X F0 H0 W e m := by
  refine ⟨fun pins s σ H Q I ⟨F, ρ, r, g⟩ => ?_⟩
  refine thn (h.run pins s σ H (fun v H' => ∃ F' a d, v = .ref a ∧ Ext F H F' H' ∧ F' a = none ∧ H a = none ∧ OwnAt X.K X.mg F' H' a d ∧ ∀ F' H' v, Ext F H F' H' → Dat X.K X.mg F' v d → Q v H') I ⟨F, ρ, r, g.imp fun d k F' H' a x n n0 o => ⟨F', a, d, rfl, x, n, n0, o, k⟩⟩) fun v s1 ⟨y, H1, I1, r1, F1, a, d, e, x, n, n0, o, k⟩ => ?_
  subst e
  obtain ⟨u, hu, mu⟩ := o.some
  obtain ⟨ob, I2⟩ := Inv.frozen I1 hu mu
  refine ⟨.ref a, _, I2, r1, k (upd F1 a (frzTo ob u)) _ _ ⟨x.ff.trans (same_upd n), same_upd2 x.fh, fun c w hc => ?_, fun c w hc hn => ?_⟩ (o.dat ob n hu)⟩
  · rw [upd_ne (ne_of_none hc n0)]; exact x.hh c w hc
  · by_cases q : c = a
    · subst q; exact .inl n0
    · rw [upd_ne q] at hc; exact x.nw c w hc hn

/-! ### names and constants -/
def eK (d : D) : EM := fun _ => .ok d
def slAt : Env → Nat → Option Sl
  | [], _ => none
  | s :: _, 0 => s
  | _ :: r, n + 1 => slAt r n
theorem slAt_some : ∀ {ρ : Env} {i : Nat} {s : Sl}, slAt ρ i = some s → ρ[i]? = some (some s)
  | s :: _, 0, _, h => by rw [show slAt (s :: _) 0 = s from rfl] at h; rw [h]; rfl
  | _ :: r, n + 1, _, h => slAt_some (ρ := r) (i := n) h
def eV (i : Nat) : EM := fun ρ => match slAt ρ i with
  | some (.val d) => .ok d
  | _ => .no
def eB (i : Nat) : EM := fun ρ => match slAt ρ i with
  | some (.val d) => .ok d
  | some (.own d) => .ok d
  | _ => .no
theorem em_int {i : Int} {j : Nat} : PEm X F0 H0 W (.Constant (.int i) j pos) (eK (.int i)) := PE.imp pe_int fun σ H Q ⟨F, ρ, r, g⟩ => g F H _ (Ext.refl r.fh) (.int i)
theorem em_bl {i : Bool} {j : Nat} : PEm X F0 H0 W (.Constant (.bool i) j pos) (eK (.bl i)) := PE.imp pe_bl fun σ H Q ⟨F, ρ, r, g⟩ => g F H _ (Ext.refl r.fh) (.bl i)
theorem em_non {j : Nat} : PEm X F0 H0 W (.Constant .none j pos) (eK .non) := PE.imp pe_non fun σ H Q ⟨F, ρ, r, g⟩ => g F H _ (Ext.refl r.fh) .non
theorem em_str {x : Str} {j : Nat} : PEm X F0 H0 W (.Constant (.str x) j pos) (eK (.str x)) := PE.imp pe_str fun σ H Q ⟨F, ρ, r, g⟩ => g F H _ (Ext.refl r.fh) (.str x)
/-- a module's constant: an int or a text -/
theorem em_glob {x : Str} {v : V} {d : D} (hg : Gl X x) (hm : ∃ u, X.mg x = some u ∧ RelV v u) (hd : Dat X.K X.mg (fun _ => none) v d) (hdb : (x == ("__debug__" : Str)) = false := by decide) : PEm X F0 H0 W (.Name x pos) (eK d) := by
  obtain ⟨u, h1, h2⟩ := hm
  exact PE.imp (pe_glob hg h1 h2 hdb) fun σ H Q ⟨F, ρ, r, g⟩ => g F H _ (Ext.refl r.fh) (hd.mono fun _ _ z => by cases z)
theorem em_v (i : Nat) {x : Str} {pos : Pos} (hN : X.N[i]? = some x := by rfl) (hv : Vis X.env.scope x := by first | exact Or.inl rfl | exact Or.inr (Or.inl rfl) | exact Or.inr (Or.inr rfl)) (hd : (x == ("__debug__" : Str)) = false := by decide)
    (hcd : (x == ("__classdict__" : Str)) = false := by decide) : PEm X F0 H0 W (.Name x pos) (eV i) := PE.imp (pe_var hN hv hd hcd) fun σ H Q ⟨F, ρ, r, g⟩ => by
  unfold eV at g
  split at g
  · rename_i d h
    obtain ⟨v, hv, k⟩ := r.sl i _ (slAt_some h)
    exact ⟨v, hv, g F H v (Ext.refl r.fh) k⟩
  · exact False.elim g
theorem bm_v (i : Nat) {x : Str} {pos : Pos} (hN : X.N[i]? = some x := by rfl) (hv : Vis X.env.scope x := by first | exact Or.inl rfl | exact Or.inr (Or.inl rfl) | exact Or.inr (Or.inr rfl)) (hd : (x == ("__debug__" : Str)) = false := by decide)
    (hcd : (x == ("__classdict__" : Str)) = false := by decide) : PBm X F0 H0 W (.Name x pos) (eB i) := PE.imp (pe_var hN hv hd hcd) fun σ H Q ⟨F, ρ, r, g⟩ => by
  unfold eB at g
  split at g
  · rename_i d h
    obtain ⟨v, hv, k⟩ := r.sl i _ (slAt_some h)
    exact ⟨v, hv, g F H v (Ext.refl r.fh) (.inl k)⟩
  · rename_i d h
    obtain ⟨v, hv, k⟩ := r.sl i _ (slAt_some h)
    exact ⟨v, hv, g F H v (Ext.refl r.fh) (.inr k)⟩
  · exact False.elim g

/-! ### operators -/
def eOp (g : D → D → Option D) (ma mb : EM) : EM := fun ρ => (ma ρ).bind fun x => (mb ρ).bind fun y => R.of (g x y)
/-- two operands, read -/
theorem two {t : TE} {g : D → D → Option D} (h : t = tOp (rM X.K X.mg g) (tEb X.K X.mg F0 H0 W ma) (tEb X.K X.mg F0 H0 W mb)) : ∀ σ H Q, tE X.K X.mg F0 H0 W (eOp g ma mb) σ H Q → t σ H Q := by
  subst h
  rintro σ H Q ⟨F, ρ, r, h⟩
  refine ⟨F, ρ, r, h.bind.imp fun x h1 F1 H1 v x1 d1 => ?_⟩
  refine ⟨F1, ρ, r.ext x1, (h1.move x1).bind.imp fun y h2 F2 H2 w x2 d2 => ?_⟩
  obtain ⟨d, e, k⟩ := h2.of
  exact ⟨F2, x, y, d, x2.fh, d1.ext x2, d2, e, fun F3 H3 z x3 q => k F3 H3 z (x1.trans (x2.trans x3)) q⟩
theorem em_bin {op : Operator} {g : D → D → Option D} (ho : OpM X (binaryOp op) g) (ha : PBm X F0 H0 W a ma) (hb : PBm X F0 H0 W b mb) : PEm X F0 H0 W (.BinOp a op b pos) (eOp g ma mb) := PE.imp (pe_op ho ha hb) (two rfl)
theorem em_cmp {op : CmpOp} {g : D → D → Option D} (ho : OpM X (compareOp op) g) (ha : PBm X F0 H0 W a ma) (hb : PBm X F0 H0 W b mb) (hm : behindInMarks op b = false) : PEm X F0 H0 W (.Compare a [op] [b] pos) (eOp g ma mb) := PE.imp (pe_cmpR ho ha hb hm) (two rfl)
def D.asB : D → R Bool
  | .bl b => .ok b
  | _ => .no
def tOf (m : EM) : TM := fun ρ => (m ρ).bind D.asB
/-- a value that is a bool, as a test -/
theorem test_of {t : TE} (h : ∀ σ H Q, tE X.K X.mg F0 H0 W m σ H Q → t σ H Q) (tt : TT) (ht : tt = tTest t) : ∀ σ H Q, tTm X.K X.mg F0 H0 W (tOf m) σ H Q → tt σ H Q := by
  subst ht
  rintro σ H Q ⟨F, ρ, r, g⟩
  refine h σ H _ ⟨F, ρ, r, g.bind.imp fun d k F' H' v x q => ?_⟩
  cases d with
  | bl b => cases q; exact ⟨b, rfl, k F' H' x⟩
  | _ => exact False.elim k
theorem tm_cmp {op : CmpOp} {g : D → D → Option D} (ho : OpM X (compareOp op) g) (ha : PBm X F0 H0 W a ma) (hb : PBm X F0 H0 W b mb) (hm : behindInMarks op b = false) : PTm X F0 H0 W (.Compare a [op] [b] pos) (tOf (eOp g ma mb)) :=
  PT.imp (pt_cmpR ho ha hb hm) (test_of (two rfl) _ rfl)
/-- an expression's truth: a name, a call, a subscript .. -/
def tTru (m : EM) : TM := fun ρ => (m ρ).bind fun d => R.of d.truth
theorem tm_tru (ha : PBm X F0 H0 W a ma) (he : ∀ whole, isTrue a X.env whole = (do let v ← whole; standAt a.pos; holding [v] (truthy v)) := by intro _; rfl) : PTm X F0 H0 W a (tTru ma) := by
  refine PT.imp (pt_truth ha he) fun σ H Q ⟨F, ρ, r, g⟩ => ?_
  refine ⟨F, ρ, r, g.bind.imp fun d k F' H' v x q => ?_⟩
  obtain ⟨b, e, k⟩ := k.of
  exact ⟨b, q.truth x.fh e, k F' H' x⟩
/-- a bool's truth, where it is known to be one -/
theorem tm_val (ha : PEm X F0 H0 W a ma) (he : ∀ whole, isTrue a X.env whole = (do let v ← whole; standAt a.pos; holding [v] (truthy v)) := by intro _; rfl) : PTm X F0 H0 W a (tOf ma) :=
  PT.imp (pt_val ha he) (test_of (fun _ _ _ z => z) _ rfl)
/-- a op b op' c -/
def eChain (g g' : D → D → Option D) (ma mb mc : EM) : EM := fun ρ => (ma ρ).bind fun x => (mb ρ).bind fun y => (R.of (g x y)).bind fun z => match z with
  | .bl true => (mc ρ).bind fun w => R.of (g' y w)
  | .bl false => .ok (.bl false)
  | _ => .no
theorem chain_ok {mc : EM} {g g' : D → D → Option D} : ∀ σ H Q, tE X.K X.mg F0 H0 W (eChain g g' ma mb mc) σ H Q → tChain (rM X.K X.mg g) (rM X.K X.mg g') (tEb X.K X.mg F0 H0 W ma) (tEb X.K X.mg F0 H0 W mb) (tEb X.K X.mg F0 H0 W mc) σ H Q := by
  rintro σ H Q ⟨F, ρ, r, h⟩
  refine ⟨F, ρ, r, h.bind.imp fun x h1 F1 H1 v x1 d1 => ?_⟩
  refine ⟨F1, ρ, r.ext x1, (h1.move x1).bind.imp fun y h2 F2 H2 w x2 d2 => ?_⟩
  obtain ⟨z, e, h3⟩ := h2.bind.of
  refine ⟨F2, x, y, z, x2.fh, d1.ext x2, d2, e, fun F3 H3 u x3 q => ?_⟩
  cases z with
  | bl b =>
    cases q
    refine ⟨b, rfl, ?_⟩
    cases b with
    | false =>
      rw [if_neg Bool.false_ne_true]
      exact h3 F3 H3 _ (x1.trans (x2.trans x3)) (.bl false)
    | true =>
      rw [if_pos rfl]
      refine ⟨F3, ρ, (r.ext x1).ext (x2.trans x3), ((h3 : Got _ _ _ _ _ _ _).move (x2.trans x3)).bind.imp fun t h4 F4 H4 w' x4 d4 => ?_⟩
      obtain ⟨d, e', k⟩ := h4.of
      exact ⟨F4, y, t, d, x4.fh, d2.ext (x3.trans x4), d4, e', fun F5 H5 z5 x5 q5 => k F5 H5 z5 (x1.trans ((x2.trans x3).trans (x4.trans x5))) q5⟩
  | _ => exact False.elim h3
theorem em_chain {op op' : CmpOp} {mc : EM} {g g' : D → D → Option D} (ho : OpM X (compareOp op) g) (ho' : OpM X (compareOp op') g') (ha : PBm X F0 H0 W a ma) (hb : PBm X F0 H0 W b mb) (hc : PBm X F0 H0 W c mc)
    (hm : lastMarks [op, op'] [b, c] = false := by with_unfolding_all rfl) : PEm X F0 H0 W (.Compare a [op, op'] [b, c] pos) (eChain g g' ma mb mc) := PE.imp (pe_chain ho ho' ha hb hc hm) chain_ok
theorem tm_chain {op op' : CmpOp} {mc : EM} {g g' : D → D → Option D} (ho : OpM X (compareOp op) g) (ho' : OpM X (compareOp op') g') (ha : PBm X F0 H0 W a ma) (hb : PBm X F0 H0 W b mb) (hc : PBm X F0 H0 W c mc)
    (hm : lastMarks [op, op'] [b, c] = false := by with_unfolding_all rfl) : PTm X F0 H0 W (.Compare a [op, op'] [b, c] pos) (tOf (eChain g g' ma mb mc)) := PT.imp (pt_chain ho ho' ha hb hc hm) (test_of chain_ok _ rfl)

/-! ### and, or, not, if -/
def tAndM (p q : TM) : TM := fun ρ => (p ρ).bind fun b => if b then q ρ else .ok false
def tOrM (p q : TM) : TM := fun ρ => (p ρ).bind fun b => if b then .ok true else q ρ
def tNotM (p : TM) : TM := fun ρ => (p ρ).bind fun b => .ok (!b)
variable {p q : TM} {rest : List Expr}
theorem wm_and1 (ha : PTm X F0 H0 W a p) : PWm X F0 H0 W (.BoolOp .And [a] pos) p := pw_and1 ha
theorem wm_or1 (ha : PTm X F0 H0 W a p) : PWm X F0 H0 W (.BoolOp .Or [a] pos) p := pw_or1 ha
theorem wm_and (ha : PTm X F0 H0 W a p) (hb : PWm X F0 H0 W (.BoolOp .And (b :: rest) pos) q) : PWm X F0 H0 W (.BoolOp .And (a :: b :: rest) pos) (tAndM p q) := by
  refine PW.imp (pw_and ha hb) fun σ H Q ⟨F, ρ, r, g⟩ => ?_
  refine ⟨F, ρ, r, g.bind.imp fun d k F' H' x => ?_⟩
  cases d with
  | true => rw [if_pos rfl]; exact ⟨F', ρ, r.ext x, (k.move x).imp fun y z F2 H2 x2 => z F2 H2 (x.trans x2)⟩
  | false => rw [if_neg Bool.false_ne_true]; exact k F' H' x
theorem wm_or (ha : PTm X F0 H0 W a p) (hb : PWm X F0 H0 W (.BoolOp .Or (b :: rest) pos) q) : PWm X F0 H0 W (.BoolOp .Or (a :: b :: rest) pos) (tOrM p q) := by
  refine PW.imp (pw_or ha hb) fun σ H Q ⟨F, ρ, r, g⟩ => ?_
  refine ⟨F, ρ, r, g.bind.imp fun d k F' H' x => ?_⟩
  cases d with
  | true => rw [if_pos rfl]; exact k F' H' x
  | false => rw [if_neg Bool.false_ne_true]; exact ⟨F', ρ, r.ext x, (k.move x).imp fun y z F2 H2 x2 => z F2 H2 (x.trans x2)⟩
theorem PWm.t (h : PWm X F0 H0 W e p) : PTm X F0 H0 W e p := PW.pt h
theorem tm_not (ha : PTm X F0 H0 W a p) : PTm X F0 H0 W (.UnaryOp .Not a pos) (tNotM p) := by
  refine PT.imp (pt_not ha) fun σ H Q ⟨F, ρ, r, g⟩ => ?_
  exact ⟨F, ρ, r, g.bind.imp fun d k => k⟩
/-- .. as values -/
def eAnd (ma mb : EM) : EM := fun ρ => (ma ρ).bind fun x => match x with
  | .bl true => mb ρ
  | .bl false => .ok (.bl false)
  | _ => .no
def eOr (ma mb : EM) : EM := fun ρ => (ma ρ).bind fun x => match x with
  | .bl false => mb ρ
  | .bl true => .ok (.bl true)
  | _ => .no
def eNot (ma : EM) : EM := fun ρ => (ma ρ).bind fun x => (R.of x.truth).bind fun b => .ok (.bl (!b))
theorem em_one {op : BoolOp} (h : PEm X F0 H0 W a m) : PEm X F0 H0 W (.BoolOp op [a] pos) m := pe_one h
theorem em_and (ha : PEm X F0 H0 W a ma) (hb : PEm X F0 H0 W (.BoolOp .And (b :: rest) pos) mb) : PEm X F0 H0 W (.BoolOp .And (a :: b :: rest) pos) (eAnd ma mb) := by
  refine PE.imp (pe_and ha hb) fun σ H Q ⟨F, ρ, r, g⟩ => ?_
  refine ⟨F, ρ, r, g.bind.imp fun d k F' H' v x q => ?_⟩
  cases d with
  | bl c =>
    cases q
    refine ⟨c, rfl, ?_⟩
    cases c with
    | true => rw [if_pos rfl]; exact ⟨F', ρ, r.ext x, ((k : Got _ _ _ _ _ _ _).move x).imp fun y z F2 H2 v x2 => z F2 H2 v (x.trans x2)⟩
    | false => rw [if_neg Bool.false_ne_true]; exact k F' H' _ x (.bl false)
  | _ => exact False.elim k
theorem em_or (ha : PEm X F0 H0 W a ma) (hb : PEm X F0 H0 W (.BoolOp .Or (b :: rest) pos) mb) : PEm X F0 H0 W (.BoolOp .Or (a :: b :: rest) pos) (eOr ma mb) := by
  refine PE.imp (pe_or ha hb) fun σ H Q ⟨F, ρ, r, g⟩ => ?_
  refine ⟨F, ρ, r, g.bind.imp fun d k F' H' v x q => ?_⟩
  cases d with
  | bl c =>
    cases q
    refine ⟨c, rfl, ?_⟩
    cases c with
    | true => rw [if_pos rfl]; exact k F' H' _ x (.bl true)
    | false => rw [if_neg Bool.false_ne_true]; exact ⟨F', ρ, r.ext x, ((k : Got _ _ _ _ _ _ _).move x).imp fun y z F2 H2 v x2 => z F2 H2 v (x.trans x2)⟩
  | _ => exact False.elim k
theorem em_not (ha : PBm X F0 H0 W a ma) : PEm X F0 H0 W (.UnaryOp .Not a pos) (eNot ma) := by
  refine PE.imp (pe_notT ha) fun σ H Q ⟨F, ρ, r, g⟩ => ?_
  refine ⟨F, ρ, r, g.bind.imp fun d k F' H' v x q => ?_⟩
  obtain ⟨b, e, k⟩ := k.bind.of
  exact ⟨b, q.truth x.fh e, k F' H' _ x (.bl _)⟩
def eNeg (ma : EM) : EM := fun ρ => (ma ρ).bind fun x => match x with
  | .int i => .ok (.int (-i))
  | _ => .no
theorem em_neg (ha : PBm X F0 H0 W a ma) : PEm X F0 H0 W (.UnaryOp .USub a pos) (eNeg ma) := by
  refine PE.imp (pe_un un_neg ha) fun σ H Q ⟨F, ρ, r, g⟩ => ?_
  refine ⟨F, ρ, r, g.bind.imp fun d k F' H' v x q => ?_⟩
  cases d with
  | int i => exact ⟨i, q.int, k F' H' _ x (.int _)⟩
  | _ => exact False.elim k
def eIf (p : TM) (ma mb : EM) : EM := fun ρ => (p ρ).bind fun b => if b then ma ρ else mb ρ
theorem em_if {t : Expr} (ht : PTm X F0 H0 W t p) (ha : PEm X F0 H0 W a ma) (hb : PEm X F0 H0 W b mb) : PEm X F0 H0 W (.IfExp t a b pos) (eIf p ma mb) := by
  refine PE.imp (pe_ifExp ht ha hb) fun σ H Q ⟨F, ρ, r, g⟩ => ?_
  refine ⟨F, ρ, r, g.bind.imp fun d k F' H' x => ?_⟩
  cases d with
  | true => rw [if_pos rfl]; exact ⟨F', ρ, r.ext x, ((k : Got _ _ _ _ _ _ _).move x).imp fun y z F2 H2 v x2 => z F2 H2 v (x.trans x2)⟩
  | false => rw [if_neg Bool.false_ne_true]; exact ⟨F', ρ, r.ext x, ((k : Got _ _ _ _ _ _ _).move x).imp fun y z F2 H2 v x2 => z F2 H2 v (x.trans x2)⟩

/-! ### lists of arguments, displays -/
theorem am_nil : PAm X F0 H0 W [] [] := PA.imp pa_nil fun σ H Q ⟨F, ρ, r, g⟩ => g F H [] (Ext.refl r.fh) .nil
theorem am_cons (ha : PEm X F0 H0 W e m) (hr : PAm X F0 H0 W es ms) (hs : starEach (e :: es) X.env = (false, eval e X.env) :: starEach es X.env := by rfl) : PAm X F0 H0 W (e :: es) (m :: ms) := by
  refine PA.imp (pa_cons ha hr hs) fun σ H Q ⟨F, ρ, r, g⟩ => ?_
  refine ⟨F, ρ, r, g.bind.imp fun d k F' H' v x q => ?_⟩
  exact ⟨F', ρ, r.ext x, (k.move x).bind.imp fun ds z F2 H2 vs x2 l => z F2 H2 _ (x.trans x2) (.cons (q.mono x2.ff) l)⟩
theorem ab_nil : PAb X F0 H0 W [] [] := PA.imp pa_nil fun σ H Q ⟨F, ρ, r, g⟩ => g F H [] (Ext.refl r.fh) .nil
theorem ab_cons (ha : PBm X F0 H0 W e m) (hr : PAb X F0 H0 W es ms) (hs : starEach (e :: es) X.env = (false, eval e X.env) :: starEach es X.env := by rfl) : PAb X F0 H0 W (e :: es) (m :: ms) := by
  refine PA.imp (pa_cons ha hr hs) fun σ H Q ⟨F, ρ, r, g⟩ => ?_
  refine ⟨F, ρ, r, g.bind.imp fun d k F' H' v x q => ?_⟩
  exact ⟨F', ρ, r.ext x, (k.move x).bind.imp fun ds z F2 H2 vs x2 l => z F2 H2 _ (x.trans x2) (.cons (q.ext x2) l)⟩
def eTup (ms : List EM) : EM := fun ρ => (aAll ms ρ).bind fun ds => .ok (.tup ds)
def eLst (ms : List EM) : EM := fun ρ => (aAll ms ρ).bind fun ds => .ok (.lst ds)
theorem aAll_got {F H : Hp} {σ : St} {ρ : Env} {k : List D → Prop} {mg : Str → Option Value} (g : Got mg W F H σ (aAll ms ρ) k) : Got mg W F H σ (aAll ms ρ) fun ds => k ds ∧ ds.length = ms.length := by
  cases e : aAll ms ρ with
  | ok ds => rw [e] at g; exact ⟨g, aAll_len e⟩
  | ex c => rw [e] at g; exact g
  | no => rw [e] at g; exact g
theorem em_tup {x1 : Nat} (h : PAm X F0 H0 W es ms) (hn : ms.length ≤ lim := by decide) : PEm X F0 H0 W (.Tuple es x1 pos) (eTup ms) := by
  refine PE.imp (pe_tup h) fun σ H Q ⟨F, ρ, r, g⟩ => ?_
  refine ⟨F, ρ, r, (aAll_got g.bind).imp fun ds ⟨k, hl⟩ F' H' vs x l => ?_⟩
  refine ⟨by rw [l.len, hl]; exact lim_line hn, tup_new x.fh l fun F2 H2 v x2 q => k F2 H2 v (x.trans x2) q⟩
theorem fm_lst (h : PAm X F0 H0 W es ms) (hn : ms.length ≤ lim := by decide) : PFm X F0 H0 W (.List es pos) (eLst ms) := by
  refine PE.imp (pe_lst h) fun σ H Q ⟨F, ρ, r, g⟩ => ?_
  refine ⟨F, ρ, r, (aAll_got g.bind).imp fun ds ⟨k, hl⟩ F' H' vs x l => ?_⟩
  refine ⟨by rw [l.len, hl]; exact lim_line hn, fun p n => ?_⟩
  refine k F' _ p ⟨x.ff, x.fh.trans (same_upd n), x.hh.trans (same_upd n), x.nw⟩ (x.fh.free n) (x.hh.free n) ⟨vs, upd_same, l⟩

/-! ### subscripts -/
theorem em_idx (hu : X.A.units + 65 < cLine) (ha : PBm X F0 H0 W a ma) (hb : PBm X F0 H0 W b mb) (hs : PlainIx b := by exact fun _ _ => rfl) : PEm X F0 H0 W (.Subscript a b pos) (eOp D.idx ma mb) := PE.imp (pe_ix (ixm_any hu) ha hb hs) (two rfl)
def oInt (m : Option EM) : Env → R (Option Int) := fun ρ => match m with
  | none => .ok none
  | some m => (m ρ).bind fun d => match d with
    | .int i => .ok (some i)
    | _ => .no
def eSl (ma : EM) (lo hi : Option EM) : EM := fun ρ => (ma ρ).bind fun x => (oInt lo ρ).bind fun l => (oInt hi ρ).bind fun u => R.of (D.slice x l u)
def POm (X : Cx) (F0 H0 : Hp) (W : WX) (e : Option Expr) (m : Option EM) : Prop := ∃ t, PO X e t ∧ ∀ σ H (Q : Option Int → Hp → Prop) F ρ, Rel X.K X.mg F0 H0 F σ H ρ → Got X.mg W F H σ (oInt m ρ) (fun o => ∀ F' H', Ext F H F' H' → Q o H') → t σ H Q
theorem om_none : POm X F0 H0 W none none := ⟨_, po_none, fun σ H Q F ρ r g => g F H (Ext.refl r.fh)⟩
theorem om_some (ha : PBm X F0 H0 W a ma) : POm X F0 H0 W (some a) (some ma) := ⟨_, po_some ha, fun σ H Q F ρ r g => by
  have g1 : Got X.mg W F H σ ((ma ρ).bind fun d => match d with
    | .int i => .ok (some i)
    | _ => .no) (fun o => ∀ F' H', Ext F H F' H' → Q o H') := g
  refine ⟨F, ρ, r, g1.bind.imp fun d k F' H' v x q => ?_⟩
  cases d with
  | int i => exact ⟨i, q.int, k F' H' x⟩
  | _ => exact False.elim k⟩
theorem em_sl {lo hi : Option Expr} {ml mh : Option EM} {p2 : Pos} (ha : PBm X F0 H0 W a ma) (hl : POm X F0 H0 W lo ml) (hh : POm X F0 H0 W hi mh) : PEm X F0 H0 W (.Subscript a (.Slice lo hi none p2) pos) (eSl ma ml mh) := by
  obtain ⟨tl, pl, kl⟩ := hl
  obtain ⟨th, ph, kh⟩ := hh
  refine PE.imp (pe_slice slm_any ha pl ph) fun σ H Q ⟨F, ρ, r, g⟩ => ?_
  refine ⟨F, ρ, r, g.bind.imp fun d k F1 H1 v x1 d1 => ?_⟩
  refine kl σ H1 _ F1 ρ (r.ext x1) ((k.move x1).bind.imp fun l k F2 H2 x2 => ?_)
  refine kh σ H2 _ F2 ρ ((r.ext x1).ext x2) ((k.move x2).bind.imp fun u k F3 H3 x3 => ?_)
  obtain ⟨z, e, k⟩ := k.of
  exact ⟨F3, d, z, x3.fh, d1.ext (x2.trans x3), e, fun F4 H4 w x4 q => k F4 H4 w (x1.trans (x2.trans (x3.trans x4))) q⟩
end
end L2.Pv

set_option Elab.async false
set_option linter.all false
set_option maxRecDepth 100000
set_option maxHeartbeats 4000000
set_option autoImplicit false
/-! Calls, walks, comprehensions, statements. -/
namespace L2.Pv
open PySem PySem.Spec PyProof.Rows

/-! ### defs -/
section
variable (K : PySem.W.Frag) (mg : Str → Option Value)
/-- a def's promise: on data it comes to what f tells; what stood stands -/
def spM (n : Nat) (f : List D → R D) : Sp := fun vs H Q E => ∃ F ds, Same F H ∧ DatL K mg F vs ds ∧ ds.length = n ∧ match f ds with
  | .ok d => ∀ F' H' v, Ext F H F' H' → Dat K mg F' v d → Q v H'
  | .ex c => ∀ F' H' C, Ext F H F' H' → mg c = some (Value.ref C) → E (.ref C) none H'
  | .no => False
/-- the module's name x is a def that keeps the promise of f, by at most level k -/
def Fn (P : Program) (w : World) (base : Heap) (x : Str) (n k : Nat) (f : List D → R D) : Prop :=
  ∃ (fa : Addr) (fd : FuncData) (ps : List Str), ps.length = n ∧ mg x = some (.ref fa) ∧ PySem.W.keepIn K (.ref fa) = true ∧ Binds K fd ps [] ∧ FnOk P w K mg base (L2.CX P w) k fa fd ps (spM K mg n f)
end
def eCall (f : List D → R D) (ms : List EM) : EM := fun ρ => (aAll ms ρ).bind f
section
variable {X : Cx} {F0 H0 : Hp} {W : WX} {e a b c : Expr} {m ma mb : EM} {es : List Expr} {ms : List EM} {pos : Pos}
theorem em_call {x : Str} {n j k : Nat} {f : List D → R D} {p : Pos} (G : Fn X.K X.mg X.prog X.w X.base x n j f) (hr : Room k X.A) (hj : j ≤ k) (tk : Takes X W) (hg : Gl X x) (ha : PAm X F0 H0 W (e :: es) ms) (hn : ms.length = n := by rfl) (hdb : (x == ("__debug__" : Str)) = false := by decide)
    (he : starEach (e :: es) X.env = (false, eval e X.env) :: starEach es X.env := by rfl) (hpl : (backTo pos (starEach es X.env)).any (·.1) = false := by rfl) : PEm X F0 H0 W (.Call (.Name x p) (e :: es) [] pos) (eCall f ms) := by
  obtain ⟨fa, fd, ps, hl, hm, hk, hb, G⟩ := G
  refine PE.imp (pe_callS G (hr.mono hj) hg hm hk hb (fun σ => passAt tk σ) ha hdb he hpl) fun σ H Q ⟨F, ρ, r, g⟩ => ?_
  refine ⟨F, ρ, r, (aAll_got g.bind).imp fun ds ⟨k, hd⟩ F' H' vs x l => ⟨F', ds, x.fh, l, hd.trans hn, ?_⟩⟩
  cases q : f ds with
  | ok d => rw [q] at k; exact fun F2 H2 v x2 z => k F2 H2 v (x.trans x2) z
  | ex c => rw [q] at k; exact fun F2 H2 C x2 z => k F2 H2 C (x.trans x2) z
  | no => rw [q] at k; exact k

/-! ### built-in functions upon data -/
def CallM (X : Cx) (v : Value) (g : List D → Option D) : Prop := CallR X v fun xs H Q => ∃ F ds d, Same F H ∧ DatBL X.K X.mg F H xs ds ∧ g ds = some d ∧ ∀ F' H' v, Ext F H F' H' → Dat X.K X.mg F' v d → Q v H'
def CallF (X : Cx) (v : Value) (g : List D → Option D) : Prop := CallR X v fun xs H Q => ∃ F ds d, Same F H ∧ DatBL X.K X.mg F H xs ds ∧ g ds = some d ∧ ∀ F' H' a, Ext F H F' H' → F' a = none → H a = none → OwnAt X.K X.mg F' H' a d → Q (.ref a) H'
def eBf (g : List D → Option D) (ms : List EM) : EM := fun ρ => (aAll ms ρ).bind fun ds => R.of (g ds)
theorem em_bf {x : Str} {id : String} {p : Pos} {g : List D → Option D} (hc : CallM X (.builtin id) g) (hg : Gl X x) (hm : X.mg x = none) (hv : bootBuiltins x = some (.builtin id)) (ha : PAb X F0 H0 W (e :: es) ms) (hn : x ≠ "__name__" := by decide) (hdb : (x == ("__debug__" : Str)) = false := by decide)
    (he : starEach (e :: es) X.env = (false, eval e X.env) :: starEach es X.env := by rfl) (hpl : (backTo pos (starEach es X.env)).any (·.1) = false := by rfl) : PEm X F0 H0 W (.Call (.Name x p) (e :: es) [] pos) (eBf g ms) := by
  refine PE.imp (pe_callB hc hg hm hv ha hn hdb he hpl) fun σ H Q ⟨F, ρ, r, q⟩ => ?_
  refine ⟨F, ρ, r, q.bind.imp fun ds k F' H' vs x l => ?_⟩
  obtain ⟨d, e, k⟩ := k.of
  exact ⟨F', ds, d, x.fh, l, e, fun F2 H2 v x2 z => k F2 H2 v (x.trans x2) z⟩
theorem em_ty {x : Str} {T : String} {p : Pos} {g : List D → Option D} (hc : CallM X (.type T) g) (hg : Gl X x) (hm : X.mg x = none) (hv : bootBuiltins x = some (.type T)) (ha : PAb X F0 H0 W (e :: es) ms) (hn : x ≠ "__name__" := by decide) (hdb : (x == ("__debug__" : Str)) = false := by decide)
    (he : starEach (e :: es) X.env = (false, eval e X.env) :: starEach es X.env := by rfl) (hpl : (backTo pos (starEach es X.env)).any (·.1) = false := by rfl) : PEm X F0 H0 W (.Call (.Name x p) (e :: es) [] pos) (eBf g ms) := by
  refine PE.imp (pe_callTy hc hg hm hv ha hn hdb he hpl) fun σ H Q ⟨F, ρ, r, q⟩ => ?_
  refine ⟨F, ρ, r, q.bind.imp fun ds k F' H' vs x l => ?_⟩
  obtain ⟨d, e, k⟩ := k.of
  exact ⟨F', ds, d, x.fh, l, e, fun F2 H2 v x2 z => k F2 H2 v (x.trans x2) z⟩
theorem fm_ty {x : Str} {T : String} {p : Pos} {g : List D → Option D} (hc : CallF X (.type T) g) (hg : Gl X x) (hm : X.mg x = none) (hv : bootBuiltins x = some (.type T)) (ha : PAb X F0 H0 W (e :: es) ms) (hn : x ≠ "__name__" := by decide) (hdb : (x == ("__debug__" : Str)) = false := by decide)
    (he : starEach (e :: es) X.env = (false, eval e X.env) :: starEach es X.env := by rfl) (hpl : (backTo pos (starEach es X.env)).any (·.1) = false := by rfl) : PFm X F0 H0 W (.Call (.Name x p) (e :: es) [] pos) (eBf g ms) := by
  refine PE.imp (pe_callTy hc hg hm hv ha hn hdb he hpl) fun σ H Q ⟨F, ρ, r, q⟩ => ?_
  refine ⟨F, ρ, r, q.bind.imp fun ds k F' H' vs x l => ?_⟩
  obtain ⟨d, e, k⟩ := k.of
  exact ⟨F', ds, d, x.fh, l, e, fun F2 H2 a x2 n n0 z => k F2 H2 a (x.trans x2) n (x.hh.free n0) z⟩
theorem DatBL.one {K : PySem.W.Frag} {mg : Str → Option Value} {F H : Hp} {vs : List V} {d : D} (h : DatBL K mg F H vs [d]) : ∃ v, vs = [v] ∧ DatB K mg F H v d := by
  cases h with | cons h l => cases l; exact ⟨_, rfl, h⟩
theorem DatBL.two {K : PySem.W.Frag} {mg : Str → Option Value} {F H : Hp} {vs : List V} {d e : D} (h : DatBL K mg F H vs [d, e]) : ∃ v w, vs = [v, w] ∧ DatB K mg F H v d ∧ DatB K mg F H w e := by
  cases h with | cons h l => cases l with | cons h2 l => cases l; exact ⟨_, _, rfl, h, h2⟩
def bLen : List D → Option D
  | [x] => x.len
  | _ => none
theorem cm_len : CallM X (.builtin "len") bLen := by
  rintro pins s σ H xs us Q I r ⟨F, ds, d, fh, l, e, k⟩
  unfold bLen at e
  split at e
  · rename_i x
    obtain ⟨v, rfl, hx⟩ := l.one
    unfold D.len at e
    split at e
    · cases e
      obtain ⟨a, xs, rfl, h1, l1⟩ := hx.lst fh
      exact call_len pins s σ H _ us Q I r ⟨_, _, rfl, .inl ⟨xs, SqL.of h1, l1.len.symm⟩, k F H _ (Ext.refl fh) (.int _)⟩
    · cases e
      obtain ⟨a, xs, rfl, _, h1, l1⟩ := hx.tup fh
      exact call_len pins s σ H _ us Q I r ⟨_, _, rfl, .inr ⟨xs, SqT.of h1, l1.len.symm⟩, k F H _ (Ext.refl fh) (.int _)⟩
    · cases e
      rename_i ns
      obtain ⟨a, rfl, h1⟩ := hx.scr fh
      exact call_len pins s σ H _ us Q I r ⟨_, ns.length, rfl, .inl ⟨_, h1, by rw [List.length_map]⟩, k F H _ (Ext.refl fh) (.int _)⟩
    · split at e
      · rename_i z hl
        cases e
        have hv := hx.str
        subst hv
        exact call_len pins s σ H _ us Q I r ⟨_, _, rfl, ⟨lim_line hl, rfl⟩, k F H _ (Ext.refl fh) (.int _)⟩
      · cases e
    · cases e
      obtain ⟨a, kvs, rfl, h1, l1⟩ := hx.dctK fh
      obtain ⟨u, hu, rx⟩ := vals1 r
      subst hu
      cases rx
      refine d_len I h1 fun t s' I' => ⟨.int _, H, I', ⟨t, rfl⟩, ?_⟩
      have hl : ∀ {kvs : List (Key × V)} {ps : List (D × D)}, DatK X.K X.mg F kvs ps → kvs.length = ps.length := by
        intro kvs
        induction kvs with
        | nil => intro ps h; cases h; rfl
        | cons p r ih => intro ps h; cases h with | cons h l => exact congrArg (· + 1) (ih l)
      rw [hl l1]
      exact k F H _ (Ext.refl fh) (.int _)
    · cases e
  · cases e
def bTuple : List D → Option D
  | [.lst ds] => some (.tup ds)
  | [.tup ds] => some (.tup ds)
  | _ => none
theorem cm_tuple : CallM X (.type "tuple") bTuple := by
  rintro pins s σ H xs us Q I r ⟨F, ds, d, fh, l, e, k⟩
  unfold bTuple at e
  split at e
  · cases e
    obtain ⟨v, rfl, hx⟩ := l.one
    obtain ⟨a, xs, rfl, h1, l1⟩ := hx.lst fh
    exact call_tuple_of pins s σ H _ us Q I r ⟨a, xs, rfl, .inl ⟨SqL.of h1, tup_new fh l1 k⟩⟩
  · cases e
    obtain ⟨v, rfl, hx⟩ := l.one
    obtain ⟨a, xs, rfl, f1, h1, l1⟩ := hx.tup fh
    exact call_tuple_of pins s σ H _ us Q I r ⟨a, xs, rfl, .inr ⟨SqT.of h1, k F H _ (Ext.refl fh) (.tup f1 l1)⟩⟩
  · cases e
def bList : List D → Option D
  | [.lst ds] => some (.lst ds)
  | [.tup ds] => some (.lst ds)
  | _ => none
theorem cf_list : CallF X (.type "list") bList := by
  rintro pins s σ H xs us Q I r ⟨F, ds, d, fh, l, e, k⟩
  have fin : ∀ {xs : List V} {ds : List D}, DatL X.K X.mg F xs ds → d = .lst ds → ∀ p, H p = none → Q (.ref p) (upd H p (.lst xs)) := fun l e p n => by
    subst e
    exact k F _ p ⟨Same.refl F, fh.trans (same_upd n), same_upd n, fun a o e n => by rw [n] at e; cases e⟩ (fh.free n) n ⟨_, upd_same, l⟩
  unfold bList at e
  split at e
  · cases e
    obtain ⟨v, rfl, hx⟩ := l.one
    obtain ⟨a, xs, rfl, h1, l1⟩ := hx.lst fh
    exact call_list_of pins s σ H _ us Q I r ⟨a, xs, rfl, .inl (SqL.of h1), fin l1 rfl⟩
  · cases e
    obtain ⟨v, rfl, hx⟩ := l.one
    obtain ⟨a, xs, rfl, _, h1, l1⟩ := hx.tup fh
    exact call_list_of pins s σ H _ us Q I r ⟨a, xs, rfl, .inr (SqT.of h1), fin l1 rfl⟩
  · cases e
def bInt : List D → Option D
  | [.int i] => some (.int i)
  | [.bl b] => some (.int (if b then 1 else 0))
  | [.str x] => if x.length ≤ 640 then (PySem.intText? x).map D.int else none
  | _ => none
theorem cm_int : CallM X (.type "int") bInt := by
  rintro pins s σ H xs us Q I r ⟨F, ds, d, fh, l, e, k⟩
  unfold bInt at e
  split at e
  · cases e
    obtain ⟨v, rfl, hx⟩ := l.one
    exact call_int1 pins s σ H _ us Q I r (.inl ⟨_, by rw [hx.int], k F H _ (Ext.refl fh) (.int _)⟩)
  · cases e
    obtain ⟨v, rfl, hx⟩ := l.one
    exact call_int1 pins s σ H _ us Q I r (.inr ⟨_, by rw [hx.bl], k F H _ (Ext.refl fh) (.int _)⟩)
  · split at e
    · rename_i x hl
      obtain ⟨v, rfl, hx⟩ := l.one
      cases q : PySem.intText? x with
      | none => rw [q] at e; cases e
      | some n =>
        rw [q] at e; cases e
        exact call_int_str pins s σ H _ us Q I r ⟨x, n, by rw [hx.str], q, hl, k F H _ (Ext.refl fh) (.int _)⟩
    · cases e
  · cases e
def bStr : List D → Option D
  | [.int i] => if i.natAbs < 2 ^ 64 then some (.str (Str.ofString (toString i))) else none
  | _ => none
theorem log64 {n : Nat} (h : n < 2 ^ 64) : n.log2 < 1920 := by
  by_cases z : n = 0
  · subst z; decide
  · exact Nat.lt_trans ((Nat.log2_lt z).mpr h) (by decide)
theorem cm_str : CallM X (.type "str") bStr := by
  rintro pins s σ H xs us Q I r ⟨F, ds, d, fh, l, e, k⟩
  unfold bStr at e
  split at e
  · split at e
    · rename_i i hi
      cases e
      obtain ⟨v, rfl, hx⟩ := l.one
      exact call_str_int pins s σ H _ us Q I r ⟨_, by rw [hx.int], log64 hi, k F H _ (Ext.refl fh) (.str _)⟩
    · cases e
  · cases e
def bMax2 : List D → Option D
  | [.int i, .int j] => some (.int (if j > i then j else i))
  | _ => none
theorem cm_max2 (hc : X.calm = true) : CallM X (.builtin "max") bMax2 := by
  rintro pins s σ H xs us Q I r ⟨F, ds, d, fh, l, e, k⟩
  unfold bMax2 at e
  split at e
  · cases e
    obtain ⟨v, w, rfl, hx, hy⟩ := l.two
    exact call_max2 hc pins s σ H _ us Q I r ⟨_, _, by rw [hx.int, hy.int], k F H _ (Ext.refl fh) (.int _)⟩
  · cases e
def bMin2 : List D → Option D
  | [.int i, .int j] => some (.int (if j < i then j else i))
  | _ => none
theorem cm_min2 (hc : X.calm = true) : CallM X (.builtin "min") bMin2 := by
  rintro pins s σ H xs us Q I r ⟨F, ds, d, fh, l, e, k⟩
  unfold bMin2 at e
  split at e
  · cases e
    obtain ⟨v, w, rfl, hx, hy⟩ := l.two
    exact call_min2 hc pins s σ H _ us Q I r ⟨_, _, by rw [hx.int, hy.int], k F H _ (Ext.refl fh) (.int _)⟩
  · cases e
/-- isinstance against a built-in type -/
def D.tyN : D → Option String
  | .non => some "NoneType"
  | .bl _ => some "bool"
  | .int _ => some "int"
  | .str _ => some "str"
  | .tup _ => some "tuple"
  | .lst _ => some "list"
  | _ => none
def isTy (T U : String) : Bool := decide (T = U) || (decide (T = "bool") && decide (U = "int"))
def eIsi (U : String) (ma : EM) : EM := fun ρ => (ma ρ).bind fun d => (R.of d.tyN).bind fun T => .ok (.bl (isTy T U))
theorem DatB.ty {K : PySem.W.Frag} {mg : Str → Option Value} {F H : Hp} {v : V} {d : D} {T : String} (fh : Same F H) (b : DatB K mg F H v d) (e : d.tyN = some T) : TyX K H v (.type T) := by
  cases d with
  | non => cases e; rw [b.non]; exact .base .non
  | bl x => cases e; rw [b.bl]; exact .base (.bl _)
  | int x => cases e; rw [b.int]; exact .base (.int _)
  | str x => cases e; rw [b.str]; exact .base (.str _)
  | tup ds => cases e; obtain ⟨a, xs, rfl, _, h1, _⟩ := b.tup fh; exact .base (.tup h1)
  | lst ds => cases e; obtain ⟨a, xs, rfl, h1, _⟩ := b.lst fh; exact .base (.lst h1)
  | _ => cases e
/-- what isinstance says of two built-in types -/
def KitOk (K : PySem.W.Frag) (U : String) : Prop := ∀ T, T ∈ ["NoneType", "bool", "int", "str", "tuple", "list"] → PySem.W.kitOne K (.type T) (.type U) = some (isTy T U)
theorem D.tyN_mem {d : D} {T : String} (e : d.tyN = some T) : T ∈ ["NoneType", "bool", "int", "str", "tuple", "list"] := by
  cases d <;> first | (cases e; simp) | cases e
theorem em_isi {U : String} {y : Str} {p q : Pos} (kit : KitOk X.K U) (hg : Gl X "isinstance") (hm : X.mg "isinstance" = none) (hgy : Gl X y) (hmy : X.mg y = none) (hby : bootBuiltins y = some (.type U)) (ha : PBm X F0 H0 W a ma) (hny : y ≠ "__name__" := by decide) (hdy : (y == ("__debug__" : Str)) = false := by decide)
    (he : starEach [a, .Name y q] X.env = (false, eval a X.env) :: starEach [.Name y q] X.env := by rfl) (he2 : starEach [.Name y q] X.env = (false, eval (.Name y q) X.env) :: starEach [] X.env := by rfl) (hpl : (backTo pos (starEach [.Name y q] X.env)).any (·.1) = false := by rfl) : PEm X F0 H0 W (.Call (.Name "isinstance" p) [a, .Name y q] [] pos) (eIsi U ma) := by
  have hb : PE X (.Name y q) (tC (.ty U)) := pe_bltn hgy hmy hby rfl hny hdy
  refine PE.imp (pe_callB call_isi hg hm (by decide +kernel) (pa_cons ha (pa_cons hb pa_nil he2) he) (by decide) (by decide) he hpl) fun σ H Q ⟨F, ρ, r, g⟩ => ?_
  refine ⟨F, ρ, r, g.bind.imp fun d k F' H' v x q => ?_⟩
  obtain ⟨T, e, k⟩ := k.bind.of
  exact ⟨v, .ty U, .type T, .type U, isTy T U, rfl, .ty U, q.ty x.fh e, kit T (D.tyN_mem e), k F' H' _ x (.bl _)⟩

/-! ### methods of built-in types upon data -/
def MetM (X : Cx) (id : String) (g : D → List D → Option D) : Prop := MtR X id fun x xs H Q => ∃ F dx ds d, Same F H ∧ DatB X.K X.mg F H x dx ∧ DatBL X.K X.mg F H xs ds ∧ g dx ds = some d ∧ ∀ F' H' v, Ext F H F' H' → Dat X.K X.mg F' v d → Q v H'
def eMet (T : D → Bool) (g : D → List D → Option D) (ma : EM) (ms : List EM) : EM := fun ρ => (ma ρ).bind fun x => if T x then (aAll ms ρ).bind fun ds => R.of (g x ds) else .no
def D.isStr : D → Bool
  | .str _ => true
  | _ => false
def D.isLst : D → Bool
  | .lst _ => true
  | _ => false
def D.isDct : D → Bool
  | .dct _ _ => true
  | _ => false
theorem isStr_ty {K : PySem.W.Frag} {mg : Str → Option Value} {F H : Hp} {v : V} {d : D} (fh : Same F H) (b : DatB K mg F H v d) (h : d.isStr = true) : tyV K "str" v H := by
  cases d with
  | str x => rw [b.str]; rfl
  | _ => cases h
theorem isLst_ty {K : PySem.W.Frag} {mg : Str → Option Value} {F H : Hp} {v : V} {d : D} (fh : Same F H) (b : DatB K mg F H v d) (h : d.isLst = true) : tyV K "list" v H := by
  cases d with
  | lst x => obtain ⟨a, xs, rfl, h1, _⟩ := b.lst fh; exact .inl ⟨rfl, xs, SqL.of h1⟩
  | _ => cases h
variable {name : Str} {apos cpos : Pos}
theorem em_met {TN : String} {id : String} {T : D → Bool} {g : D → List D → Option D} (hT : ∀ {F H : Hp} {v : V} {d : D}, Same F H → DatB X.K X.mg F H v d → T d = true → tyV X.K TN v H) (pa : PlainAttrs TN) (slot : Slot TN name id) (hty : typeOf (.builtin id) = pure (.type "method_descriptor")) (hm : MetM X id g)
    (ho : PBm X F0 H0 W a ma) (ha : PAb X F0 H0 W (e :: es) ms)
    (hbase : attributeBase a name X.env (eval a X.env) = eval a X.env := by rfl)
    (hfew : ((backTo cpos (starEach (e :: es) X.env)).all (fun x => !x.1) && (backToKw cpos (keywordEach [] X.env)).all (fun x => x.1.isSome) && decide ((e :: es).length + ([] : List Keyword).length + (if ([] : List Keyword).isEmpty then 0 else 1) < 30)) = true := by rfl)
    (hline : (apos.endLine == cpos.line) = true := by rfl) (hs : starEach (e :: es) X.env = (false, eval e X.env) :: starEach es X.env := by rfl) (hplain : (backTo cpos (starEach es X.env)).any (·.1) = false := by rfl) :
    PEm X F0 H0 W (.Call (.Attribute a name apos) (e :: es) [] cpos) (eMet T g ma ms) := by
  refine PE.imp (pe_bm pa slot hty hm ho ha hbase hfew hline hs hplain) fun σ H Q ⟨F, ρ, r, q⟩ => ?_
  refine ⟨F, ρ, r, q.bind.imp fun d k F1 H1 v x1 d1 => ?_⟩
  by_cases ht : T d = true
  · rw [if_pos ht] at k
    refine ⟨hT x1.fh d1 ht, F1, ρ, r.ext x1, (k.move x1).bind.imp fun ds k F2 H2 vs x2 l => ?_⟩
    obtain ⟨z, e, k⟩ := k.of
    exact ⟨F2, d, ds, z, x2.fh, d1.ext x2, l, e, fun F3 H3 w x3 q => k F3 H3 w (x1.trans (x2.trans x3)) q⟩
  · rw [if_neg ht] at k
    exact False.elim k
/-- a list's texts -/
def D.strs : List D → Option (List Str)
  | [] => some []
  | .str x :: r => (D.strs r).map (x :: ·)
  | _ => none
theorem strs_V {K : PySem.W.Frag} {mg : Str → Option Value} {F : Hp} : ∀ {vs : List V} {ds : List D} {xs : List Str}, DatL K mg F vs ds → D.strs ds = some xs → vs = xs.map V.str
  | _, _, _, .nil, h => by cases h; rfl
  | _, _, _, .cons (d := d) (ds := ds) hv l, h => by
    cases d with
    | str x =>
      have h1 : (D.strs ds).map (x :: ·) = some _ := h
      cases q : D.strs ds with
      | none => rw [q] at h1; cases h1
      | some r =>
        rw [q] at h1; cases h1
        cases hv
        rw [strs_V l q]
        rfl
    | _ => cases h
def mJoin (x : D) : List D → Option D
  | [.lst ds] => match x, D.strs ds with
    | .str y, some xs => if (xs.map Str.length).sum + xs.length * y.length ≤ lim then some (.str (Txt.join y xs)) else none
    | _, _ => none
  | _ => none
end
end L2.Pv

set_option Elab.async false
set_option linter.all false
set_option maxRecDepth 100000
set_option maxHeartbeats 4000000
set_option autoImplicit false
/-! Walks, comprehensions, statements. -/
namespace L2.Pv
open PySem PySem.Spec PyProof.Rows

/-! ### what is walked -/
/-- the iterator J yields these data, whatever is added to the frozen part -/
def ItOk (K : PySem.W.Frag) (mg : Str → Option Value) (F : Hp) (J : It) (ds : List D) : Prop := ∀ (i : Nat) (F1 H1 : Hp), Same F F1 → Same F1 H1 →
  (∀ d, ds[i]? = some d → J.go i H1 ∧ ∀ x H2, J.yld i H1 x H2 → ∃ F2, Ext F1 H1 F2 H2 ∧ Dat K mg F2 x d) ∧ (ds.length ≤ i → J.stop i H1)
def tIm (K : PySem.W.Frag) (mg : Str → Option Value) (F0 H0 : Hp) (W : WX) (m : AM) : TI := fun σ H R => ∃ F ρ, Rel K mg F0 H0 F σ H ρ ∧ Got mg W F H σ (m ρ) fun ds => ∀ F' H' J, Ext F H F' H' → ItOk K mg F' J ds → R J H'
def PIm (X : Cx) (F0 H0 : Hp) (W : WX) (tg iter : Expr) (m : AM) : Prop := PI X tg iter (tIm X.K X.mg F0 H0 W m)
theorem PI.imp {X : Cx} {tg iter : Expr} {t t' : TI} (h : PI X tg iter t) (f : ∀ σ H R, t' σ H R → t σ H R) : PI X tg iter t' := ⟨fun pins s σ H Q I q => h.run pins s σ H Q I (f σ H Q q)⟩
/-- the items of a value -/
def D.items : D → Option (List D)
  | .lst ds => some ds
  | .tup ds => some ds
  | .str z => some (z.cps.toList.map fun c => .str ⟨#[c]⟩)
  | .dct _ ps => some (ps.map (·.1))
  | .scr ns => some (ns.map D.int)
  | _ => none
section
variable {X : Cx} {F0 H0 : Hp} {W : WX} {e a b c tg : Expr} {m ma mb mc : EM} {es : List Expr} {ms : List EM} {pos : Pos}
theorem DatK.keys {K : PySem.W.Frag} {mg : Str → Option Value} {F : Hp} : ∀ {kvs : List (Key × V)} {ps : List (D × D)} {i : Nat} {k : Key} {v : V}, DatK K mg F kvs ps → kvs[i]? = some (k, v) → (ps.map (·.1))[i]? = some (keyD k)
  | _, _, 0, _, _, .cons _ _, h => by cases h; rfl
  | _, _, i + 1, _, _, .cons _ l, h => DatK.keys (i := i) l h
theorem DatK.len {K : PySem.W.Frag} {mg : Str → Option Value} {F : Hp} : ∀ {kvs : List (Key × V)} {ps : List (D × D)}, DatK K mg F kvs ps → kvs.length = ps.length
  | _, _, .nil => rfl
  | _, _, .cons _ l => congrArg (· + 1) l.len
theorem DatT.keys {K : PySem.W.Frag} {mg : Str → Option Value} {F : Hp} : ∀ {kvs : List (List Key × V)} {ps : List (D × D)} {i : Nat} {k : List Key} {v : V}, DatT K mg F kvs ps → kvs[i]? = some (k, v) → (ps.map (·.1))[i]? = some (.tup (k.map keyD))
  | _, _, 0, _, _, .cons _ _, h => by cases h; rfl
  | _, _, i + 1, _, _, .cons _ l, h => DatT.keys (i := i) l h
theorem DatT.len {K : PySem.W.Frag} {mg : Str → Option Value} {F : Hp} : ∀ {kvs : List (List Key × V)} {ps : List (D × D)}, DatT K mg F kvs ps → kvs.length = ps.length
  | _, _, .nil => rfl
  | _, _, .cons _ l => congrArg (· + 1) l.len
theorem keyD_dat {K : PySem.W.Frag} {mg : Str → Option Value} {F : Hp} (k : Key) : Dat K mg F (kV k) (keyD k) := by
  cases k with
  | inl i => exact .int i
  | inr x => exact .str x
theorem keysD_dat {K : PySem.W.Frag} {mg : Str → Option Value} {F : Hp} : ∀ ks : List Key, DatL K mg F (ks.map kV) (ks.map keyD)
  | [] => .nil
  | k :: ks => .cons (keyD_dat k) (keysD_dat ks)
theorem itl_ok {K : PySem.W.Frag} {mg : Str → Option Value} {F : Hp} {a : Addr} {xs : List V} {ds : List D} (h : F a = some (.lst xs)) (l : DatL K mg F xs ds) (inj : ∀ (H1 : Hp) (ys : List V), Same F H1 → SqL K H1 a ys → ys = xs) : ItOk K mg F (Itl K a) ds := fun i F1 H1 s1 s2 => by
  have q : SqL K H1 a xs := SqL.of (s2 _ _ (s1 _ _ h))
  refine ⟨fun d hd => ?_, fun hl => ⟨xs, q, by rw [l.len]; exact hl⟩⟩
  obtain ⟨v, hv, dv⟩ := l.getD hd
  refine ⟨⟨xs, v, q, hv⟩, fun x H2 ⟨e, y⟩ => ?_⟩
  subst e
  have z := y xs q
  rw [hv] at z; cases z
  exact ⟨F1, Ext.refl s2, dv.mono s1⟩
/-- a value, walked -/
def iV (m : EM) : AM := fun ρ => (m ρ).bind fun d => R.of d.items
theorem im_any (he : PEm X F0 H0 W e m) : PIm X F0 H0 W tg e (iV m) := by
  refine ⟨fun pins s σ H R I ⟨F, ρ, r, g⟩ => ?_⟩
  refine thn (PE.run he pins s σ H (fun v H' => ∃ F' d ds, Ext F H F' H' ∧ Dat X.K X.mg F' v d ∧ d.items = some ds ∧ ∀ F' H' J, Ext F H F' H' → ItOk X.K X.mg F' J ds → R J H') I ⟨F, ρ, r, g.bind.imp fun d k F' H' v x q => ?_⟩) fun v s1 ⟨y, H1, I1, r1, F1, d, ds, x, q, e, k⟩ => ?_
  · obtain ⟨ds, e, k⟩ := k.of
    exact ⟨F', d, ds, x, q, e, k⟩
  cases q with
  | @tup a xs ds' h l =>
    cases e
    cases r1
    have hq : SqT X.K H1 a xs := SqT.of (x.fh _ _ h)
    obtain ⟨its, rv, p, hz⟩ := I1.tuple hq
    refine wpAny_pyIter_tuple (show s1.heap.IsTuple a its.toArray from p) (pi_one (tk := s1.toks) I1 _ (turn_tuple a _) ⟨_, Heap.get?_push_size _ rfl, rfl, rfl⟩ (k F1 H1 _ x fun i F2 H2 s1 s2 => ?_))
    have q : SqT X.K H2 a xs := SqT.of (s2 _ _ (s1 _ _ h))
    refine ⟨fun d hd => ?_, fun hl => ⟨xs, q, by rw [l.len]; exact hl⟩⟩
    obtain ⟨v, hv, dv⟩ := l.getD hd
    refine ⟨⟨xs, v, q, hv⟩, fun x H3 ⟨e, y⟩ => ?_⟩
    subst e
    have z := y xs q
    rw [hv] at z; cases z
    exact ⟨F2, Ext.refl s2, dv.mono s1⟩
  | @lst a xs ds' h l =>
    cases e
    cases r1
    have hq : SqL X.K H1 a xs := SqL.of (x.fh _ _ h)
    obtain ⟨its, rv, p, hz⟩ := I1.list hq
    refine wpAny_pyIter_list p.isList (pi_one (tk := s1.toks) I1 _ (turn_list a _) ⟨_, Heap.get?_push_size _ rfl, rfl, rfl⟩ (k F1 H1 _ x fun i F2 H2 s1 s2 => ?_))
    have q : SqL X.K H2 a xs := SqL.of (s2 _ _ (s1 _ _ h))
    refine ⟨fun d hd => ?_, fun hl => ⟨xs, q, by rw [l.len]; exact hl⟩⟩
    obtain ⟨v, hv, dv⟩ := l.getD hd
    refine ⟨⟨xs, v, q, hv⟩, fun x H3 ⟨e, y⟩ => ?_⟩
    subst e
    have z := y xs q
    rw [hv] at z; cases z
    exact ⟨F2, Ext.refl s2, dv.mono s1⟩
  | @scr a ns h =>
    cases e
    cases r1
    have hq : SqL X.K H1 a (ns.map V.int) := SqL.mono x.fh h
    obtain ⟨its, rv, p, hz⟩ := I1.list hq
    refine wpAny_pyIter_list p.isList (pi_one (tk := s1.toks) I1 _ (turn_list a _) ⟨_, Heap.get?_push_size _ rfl, rfl, rfl⟩ (k F1 H1 _ x fun i F2 H2 s1 s2 => ?_))
    have q : SqL X.K H2 a (ns.map V.int) := SqL.mono s2 (SqL.mono s1 h)
    refine ⟨fun d hd => ?_, fun hl => ⟨_, q, by rw [List.length_map] at hl ⊢; exact hl⟩⟩
    rw [List.getElem?_map] at hd
    cases hn : ns[i]? with
    | none => rw [hn] at hd; cases hd
    | some n =>
      rw [hn] at hd; cases hd
      have hv : (ns.map V.int)[i]? = some (.int n) := by rw [List.getElem?_map, hn]; rfl
      refine ⟨⟨_, _, q, hv⟩, fun x H3 ⟨e, y⟩ => ?_⟩
      subst e
      have z := y _ q
      rw [hv] at z; cases z
      exact ⟨F2, Ext.refl s2, .int n⟩
  | str z =>
    cases e
    obtain ⟨t, rfl⟩ := r1
    have ok : ItOk X.K X.mg F1 (Its z) (z.cps.toList.map fun c => .str ⟨#[c]⟩) := fun i F2 H2 s1 s2 => by
      refine ⟨fun d hd => ?_, fun hl => by rw [List.length_map, Array.length_toList] at hl; exact hl⟩
      rw [List.getElem?_map] at hd
      cases hn : z.cps.toList[i]? with
      | none => rw [hn] at hd; cases hd
      | some n =>
        rw [hn] at hd; cases hd
        have hi : z.cps[i]? = some n := by rw [← Array.getElem?_toList]; exact hn
        refine ⟨(Array.getElem?_eq_some_iff.mp hi).1, fun x H3 ⟨e, c, hc, ec⟩ => ?_⟩
        subst e ec
        rw [hi] at hc; cases hc
        exact ⟨F2, Ext.refl s2, .str _⟩
    cases ha : z.cps.all (· < 128)
    · exact wpAny_pyIter_wide ha (pi_one (tk := s1.toks) I1 _ (turn_str _ z t "str_iterator" (.inr rfl)) ⟨_, Heap.get?_push_size _ rfl, rfl, rfl⟩ (k F1 H1 _ x ok))
    · exact wpAny_pyIter_ascii ha (pi_one (tk := s1.toks) I1 _ (turn_str _ z t "str_ascii_iterator" (.inl rfl)) ⟨_, Heap.get?_push_size _ rfl, rfl, rfl⟩ (k F1 H1 _ x ok))
  | @dctK d o kvs ps h l =>
    cases e
    cases r1
    have hd := x.fh _ _ h
    obtain ⟨hs, hgd, hx, es, ep, vs, hdt, hsz, kv, hm⟩ := I1.frzK hd
    refine iter_keys hs hgd hx hdt (pi_one (tk := s1.toks) (J := Itk d o kvs) I1 _ (turn_keys _ hdt) ⟨_, Heap.get?_push_size _ rfl, rfl, ?_⟩ (k F1 H1 _ x fun i F2 H2 s1 s2 => ?_))
    · rw [hsz] <;> rfl
    have q := s2 _ _ (s1 _ _ h)
    refine ⟨fun d' hd' => ?_, fun hl => ⟨q, by rw [List.length_map] at hl; rw [l.len]; exact hl⟩⟩
    have hi : i < kvs.length := by
      have := (List.getElem?_eq_some_iff.mp hd').1
      rw [List.length_map] at this
      rw [l.len]; exact this
    refine ⟨⟨q, hi⟩, fun y H3 ⟨e, k', v', e1, e2⟩ => ?_⟩
    subst e e2
    have z := DatK.keys l e1
    rw [hd'] at z; cases z
    exact ⟨F2, Ext.refl s2, keyD_dat k'⟩
  | @dctT d o kvs ps h l =>
    cases e
    cases r1
    have hd := x.fh _ _ h
    obtain ⟨hs, hgd, hx, es, ep, hdt, hsz, ent⟩ := I1.frzT hd
    refine iter_keys hs hgd hx hdt (pi_one (tk := s1.toks) (J := Itkt d o kvs) I1 _ (turn_keysT _ hdt) ⟨_, Heap.get?_push_size _ rfl, rfl, ?_⟩ (k F1 H1 _ x fun i F2 H2 s1 s2 => ?_))
    · rw [hsz] <;> rfl
    have q := s2 _ _ (s1 _ _ h)
    refine ⟨fun d' hd' => ?_, fun hl => ⟨q, by rw [List.length_map] at hl; rw [l.len]; exact hl⟩⟩
    have hi : i < kvs.length := by
      have := (List.getElem?_eq_some_iff.mp hd').1
      rw [List.length_map] at this
      rw [l.len]; exact this
    refine ⟨⟨q, hi⟩, fun y H3 ⟨e, k', v', b, e1, e2, hb⟩ => ?_⟩
    subst e e2
    have z := DatT.keys l e1
    rw [hd'] at z; cases z
    by_cases hF : F2 b = none
    · refine ⟨upd F2 b (.tup (k'.map kV)), ⟨same_upd hF, fun c w hc => ?_, Same.refl _, fun c w hc hn => ?_⟩, .tup upd_same (keysD_dat k')⟩
      · by_cases qc : c = b
        · subst qc; rw [upd_same] at hc; cases hc; exact hb
        · rw [upd_ne qc] at hc; exact s2 c w hc
      · by_cases qc : c = b
        · subst qc; rw [upd_same] at hc; cases hc; exact .inr ⟨_, rfl⟩
        · rw [upd_ne qc, hn] at hc; cases hc
    · cases qF : F2 b with
      | none => exact absurd qF hF
      | some w =>
        have := s2 _ _ qF
        rw [hb] at this; cases this
        exact ⟨F2, Ext.refl s2, .tup qF (keysD_dat k')⟩
  | _ => cases e

/-! ### ranges -/
def rg1 : List D → Option (List D)
  | [.int j] => if decide (-(2 ^ 62) ≤ j) && decide (j < 2 ^ 62) then some ((List.range j.toNat).map fun i : Nat => .int i) else none
  | _ => none
def rg2 : List D → Option (List D)
  | [.int i, .int j] => if (decide (-(2 ^ 62) ≤ i) && decide (i < 2 ^ 62)) && (decide (-(2 ^ 62) ≤ j) && decide (j < 2 ^ 62)) then some ((List.range (j - i).toNat).map fun k : Nat => .int (i + k)) else none
  | _ => none
/-- range(i, j, -1) -/
def rg3 : List D → Option (List D)
  | [.int i, .int j, .int c] => if decide (c = -1) && ((decide (-(2 ^ 62) ≤ i) && decide (i < 2 ^ 62)) && (decide (-(2 ^ 62) ≤ j) && decide (j < 2 ^ 62))) then some ((List.range (i - j).toNat).map fun k : Nat => .int (i - k)) else none
  | _ => none
def iBf (g : List D → Option (List D)) (ms : List EM) : AM := fun ρ => (aAll ms ρ).bind fun ds => R.of (g ds)
theorem range_get {n i : Nat} {f : Nat → D} {d : D} (h : ((List.range n).map f)[i]? = some d) : i < n ∧ d = f i := by
  have hi := (List.getElem?_eq_some_iff.mp h).1
  rw [List.length_map, List.length_range] at hi
  rw [List.getElem?_map, List.getElem?_range hi] at h
  cases h
  exact ⟨hi, rfl⟩
theorem itr_ok {K : PySem.W.Frag} {mg : Str → Option Value} {F : Hp} (lo : Int) (n : Nat) : ItOk K mg F (Itr lo n) ((List.range n).map fun k : Nat => .int (lo + k)) := fun i F1 H1 s1 s2 => by
  refine ⟨fun d hd => ?_, fun hl => by rw [List.length_map, List.length_range] at hl; exact hl⟩
  obtain ⟨h1, h2⟩ := range_get hd
  subst h2
  refine ⟨h1, fun x H2 ⟨e1, e2⟩ => ?_⟩
  subst e1 e2
  exact ⟨F1, Ext.refl s2, .int _⟩
theorem im_range1 {p : Pos} (hg : Gl X "range") (hm : X.mg "range" = none) (ha : PAb X F0 H0 W [a] [ma]) (hs : starEach [a] X.env = [(false, eval a X.env)] := by rfl) : PIm X F0 H0 W tg (.Call (.Name "range" p) [a] [] pos) (iBf rg1 [ma]) := by
  refine PI.imp (pi_range1 hg hm ha hs) fun σ H R ⟨F, ρ, r, q⟩ => ?_
  refine ⟨F, ρ, r, q.bind.imp fun ds k F' H' vs x l => ?_⟩
  obtain ⟨z, e, k⟩ := k.of
  unfold rg1 at e
  split at e
  · split at e
    · rename_i j hc
      cases e
      obtain ⟨v, rfl, hv⟩ := l.one
      rw [hv.int]
      simp only [Bool.and_eq_true, decide_eq_true_eq] at hc
      have ok := itr_ok (K := X.K) (mg := X.mg) (F := F') 0 j.toNat
      simp only [Int.zero_add] at ok
      exact ⟨j, rfl, hc.1, hc.2, k F' H' _ x ok⟩
    · cases e
  · cases e
theorem im_range2 {p : Pos} (hg : Gl X "range") (hm : X.mg "range" = none) (ha : PAb X F0 H0 W [a, b] [ma, mb]) (hs : starEach [a, b] X.env = [(false, eval a X.env), (false, eval b X.env)] := by rfl) (hs2 : starEach [b] X.env = [(false, eval b X.env)] := by rfl) : PIm X F0 H0 W tg (.Call (.Name "range" p) [a, b] [] pos) (iBf rg2 [ma, mb]) := by
  refine PI.imp (pi_range2 hg hm ha hs hs2) fun σ H R ⟨F, ρ, r, q⟩ => ?_
  refine ⟨F, ρ, r, q.bind.imp fun ds k F' H' vs x l => ?_⟩
  obtain ⟨z, e, k⟩ := k.of
  unfold rg2 at e
  split at e
  · split at e
    · rename_i i j hc
      cases e
      obtain ⟨v, w, rfl, hv, hw⟩ := l.two
      rw [hv.int, hw.int]
      simp only [Bool.and_eq_true, decide_eq_true_eq] at hc
      exact ⟨i, j, rfl, ⟨hc.1.1, hc.1.2, hc.2.1, hc.2.2⟩, k F' H' _ x (itr_ok i _)⟩
    · cases e
  · cases e
theorem im_range3 {p : Pos} (hg : Gl X "range") (hm : X.mg "range" = none) (ha : PAb X F0 H0 W [a, b, c] [ma, mb, mc])
    (hs : starEach [a, b, c] X.env = (false, eval a X.env) :: starEach [b, c] X.env := by rfl) (hpl : (backTo pos (starEach [b, c] X.env)).any (·.1) = false := by rfl) : PIm X F0 H0 W tg (.Call (.Name "range" p) [a, b, c] [] pos) (iBf rg3 [ma, mb, mc]) := by
  refine PI.imp (pi_range3 hg hm ha hs hpl) fun σ H R ⟨F, ρ, r, q⟩ => ?_
  refine ⟨F, ρ, r, q.bind.imp fun ds k F' H' vs x l => ?_⟩
  obtain ⟨z, e, kk⟩ := k.of
  unfold rg3 at e
  split at e
  · split at e
    · rename_i i j st hc
      cases e
      cases l with | cons h1 l => cases l with | cons h2 l => cases l with | cons h3 l =>
      cases l
      rw [h1.int, h2.int, h3.int]
      simp only [Bool.and_eq_true, decide_eq_true_eq] at hc
      obtain ⟨e1, ⟨c1, c2⟩, c3, c4⟩ := hc
      subst e1
      refine ⟨i, j, -1, (i - j).toNat, rfl, RgC.neg c1 c2 c3 c4, kk F' H' _ x fun n F1 H1 s1 s2 => ?_⟩
      refine ⟨fun d hd => ?_, fun hl => by rw [List.length_map, List.length_range] at hl; exact hl⟩
      obtain ⟨h1, h2⟩ := range_get hd
      subst h2
      refine ⟨h1, fun y H2 ⟨e1, e2⟩ => ?_⟩
      subst e1 e2
      exact ⟨F1, Ext.refl s2, by rw [show i + (n : Int) * -1 = i - n by omega]; exact .int _⟩
    · cases e
  · cases e

end

/-! ### targets -/
abbrev GM := Env → D → Option Env
/-- g stores into the slots at is -/
def GOk (K : PySem.W.Frag) (mg : Str → Option Value) (F0 H0 : Hp) (g : TG) (is : List Nat) (gm : GM) : Prop := ∀ (F : Hp) (σ : St) (H : Hp) (ρ ρ1 : Env) (v : V) (d : D) (Q : St → Hp → Prop), Rel K mg F0 H0 F σ H ρ → Dat K mg F v d → gm ρ d = some ρ1 →
  (∀ σ', Rel K mg F0 H0 F σ' H ρ1 → (∀ own : List Nat, (∀ i ∈ is, i ∈ own) → wipe σ' own = wipe σ own) → Q σ' H) → g v σ H Q
def gOne (i : Nat) : GM := fun ρ d => some (ρ.set i (some (.val d)))
theorem wipe_set {σ : St} {i : Nat} {x : Option V} : ∀ {own : List Nat}, i ∈ own → wipe (σ.set i x) own = wipe σ own
  | [], h => by cases h
  | j :: own, h => by
    show (wipe (σ.set i x) own).set j none = (wipe σ own).set j none
    by_cases e : i ∈ own
    · rw [wipe_set e]
    · have ej : i = j := by
        rcases List.mem_cons.mp h with z | z
        · exact z
        · exact absurd z e
      subst ej
      apply List.ext_getElem?
      intro k
      by_cases hk : k = i
      · subst hk
        rw [List.getElem?_set, List.getElem?_set, wipe_length, wipe_length, List.length_set, if_pos rfl, if_pos rfl]
      · rw [List.getElem?_set_ne (Ne.symm hk), List.getElem?_set_ne (Ne.symm hk)]
        by_cases ho : k ∈ own
        · have gone : ∀ (τ : St) (l : List Nat), k ∈ l → k < τ.length → (wipe τ l)[k]? = some none := by
            intro τ l
            induction l with
            | nil => intro h; cases h
            | cons a r ih =>
              intro h hl
              show ((wipe τ r).set a none)[k]? = _
              by_cases z : a = k
              · subst z; exact List.getElem?_set_self (by rw [wipe_length]; exact hl)
              · rw [List.getElem?_set_ne z]
                exact ih ((List.mem_cons.mp h).resolve_left (Ne.symm z)) hl
          by_cases hl : k < σ.length
          · rw [gone _ _ ho (by rw [List.length_set]; exact hl), gone _ _ ho hl]
          · rw [List.getElem?_eq_none (by rw [wipe_length, List.length_set]; omega), List.getElem?_eq_none (by rw [wipe_length]; omega)]
        · rw [wipe_out ho, wipe_out ho, List.getElem?_set_ne (Ne.symm hk)]
section
variable {K : PySem.W.Frag} {mg : Str → Option Value} {F0 H0 : Hp}
theorem gok_one (i : Nat) : GOk K mg F0 H0 (gName i) [i] (gOne i) := fun F σ H ρ ρ1 v d Q r q e k => by
  cases e
  exact k _ (r.put i q) fun own h => wipe_set (h i List.mem_cons_self)
def setAll (ρ : Env) : List Nat → List D → Env
  | i :: is, d :: ds => setAll (ρ.set i (some (.val d))) is ds
  | _, _ => ρ
def gTupM (is : List Nat) : GM := fun ρ d => match d with
  | .tup ds => if ds.length = is.length then some (setAll ρ is ds) else none
  | _ => none
def gsN : List Nat → TGs
  | [] => gNil
  | i :: is => gCons (gName i) (gsN is)
theorem gsN_ok : ∀ (is : List Nat) (F : Hp) (σ : St) (H : Hp) (ρ : Env) (vs : List V) (ds : List D) (Q : St → Hp → Prop), ds.length = is.length → Rel K mg F0 H0 F σ H ρ → DatL K mg F vs ds →
    (∀ σ', Rel K mg F0 H0 F σ' H (setAll ρ is ds) → (∀ own : List Nat, (∀ i ∈ is, i ∈ own) → wipe σ' own = wipe σ own) → Q σ' H) → gsN is vs σ H Q
  | [], F, σ, H, ρ, vs, ds, Q, hl, r, l, k => by
    cases ds with
    | nil => cases l; exact ⟨rfl, k σ r fun _ _ => rfl⟩
    | cons d ds => cases hl
  | i :: is, F, σ, H, ρ, vs, ds, Q, hl, r, l, k => by
    cases ds with
    | nil => cases hl
    | cons d ds =>
      cases l with
      | cons h l =>
        refine ⟨_, _, rfl, ?_⟩
        refine gsN_ok is F _ H _ _ ds Q (by simpa using hl) (r.put i h) l fun σ' r' w => k σ' r' fun own ho => ?_
        rw [w own fun j hj => ho j (List.mem_cons_of_mem _ hj), wipe_set (ho i List.mem_cons_self)]
theorem gok_tup (is : List Nat) {n : Nat} (hn : is.length = n := by rfl) : GOk K mg F0 H0 (gTup K n (gsN is)) is (gTupM is) := fun F σ H ρ ρ1 v d Q r q e k => by
  unfold gTupM at e
  split at e
  · split at e
    · rename_i ds hl
      cases e
      cases q with
      | @tup a xs _ h l => exact ⟨a, xs, rfl, SqT.of (r.fh _ _ h), by rw [l.len, hl, hn], gsN_ok is F σ H ρ xs ds Q hl r l k⟩
    · cases e
  · cases e
end

/-! ### comprehensions -/
def R.nx {α : Type} (r : R α) : R α := match r with
  | .ok a => .ok a
  | _ => .no
theorem Got.nx {mg : Str → Option Value} {W W0 : WX} {F H : Hp} {σ σ2 : St} {α β : Type} {r : R α} {f : α → R β} {k : β → Prop} (h : Got mg W F H σ (r.nx.bind f) k) : Got mg W0 F H σ2 r fun a => Got mg W F H σ (f a) k := by
  cases r with
  | ok a => exact h
  | ex c => exact False.elim h
  | no => exact False.elim h
/-- the items of a comprehension, the slots else being ρ -/
def compD (gm : GM) (p : TM) (me : EM) (ρ : Env) : List D → R (List D)
  | [] => .ok []
  | d :: ds => (R.of (gm ρ d)).bind fun ρ1 => (p ρ1).nx.bind fun b => if b then (me ρ1).nx.bind fun e => (compD gm p me ρ ds).bind fun es => .ok (e :: es) else compD gm p me ρ ds
def wipeE (ρ : Env) : List Nat → Env
  | [] => ρ
  | v :: vs => (wipeE ρ vs).set v none
def eLc (own : List Nat) (gm : GM) (mi : AM) (p : TM) (me : EM) : EM := fun ρ => (mi ρ).bind fun ds => if ds.length ≤ lim then (compD gm p me (wipeE ρ own) ds).bind fun es => .ok (.lst es) else .no
theorem wipeE_length (ρ : Env) : ∀ vs : List Nat, (wipeE ρ vs).length = ρ.length
  | [] => rfl
  | v :: vs => by unfold wipeE; rw [List.length_set, wipeE_length ρ vs]
theorem Rel.wipe {K : PySem.W.Frag} {mg : Str → Option Value} {F0 H0 F H : Hp} {σ : St} {ρ : Env} (r : Rel K mg F0 H0 F σ H ρ) : ∀ vs : List Nat, Rel K mg F0 H0 F (L2.wipe σ vs) H (wipeE ρ vs)
  | [] => r
  | v :: vs => by
    have q := Rel.wipe r vs
    have kn : ∀ (j : Nat) (s : Sl), ((wipeE ρ vs).set v none)[j]? = some (some s) → j ≠ v ∧ (wipeE ρ vs)[j]? = some (some s) := fun j s e => by
      rw [List.getElem?_set] at e
      split at e
      · split at e <;> cases e
      · exact ⟨fun z => by simp_all, e⟩
    have ks : ∀ (j : Nat), j ≠ v → ((L2.wipe σ vs).set v none)[j]? = (L2.wipe σ vs)[j]? := fun j h => List.getElem?_set_ne (Ne.symm h)
    refine ⟨q.fh, q.f0, q.h0, q.nw, ?_, fun j s e => ?_, fun j d a e h => ?_, fun i j d e a ne h1 h2 h3 h4 => ?_⟩
    · show ((wipeE ρ vs).set v none).length = ((L2.wipe σ vs).set v none).length
      rw [List.length_set, List.length_set]; exact q.len
    · obtain ⟨h1, h2⟩ := kn j s e
      obtain ⟨w, hw, o⟩ := q.sl j s h2
      exact ⟨w, (ks j h1).trans hw, o⟩
    · obtain ⟨h1, h2⟩ := kn j _ e
      exact q.ow j d a h2 ((ks j h1).symm.trans h)
    · obtain ⟨n1, h1⟩ := kn i _ h1
      obtain ⟨n2, h2⟩ := kn j _ h2
      exact q.un i j d e a ne h1 h2 ((ks i n1).symm.trans h3) ((ks j n2).symm.trans h4)
theorem wipe_wipe (σ : St) : ∀ (own vs : List Nat), (∀ i ∈ own, i ∈ vs) → wipe (wipe σ own) vs = wipe σ vs
  | [], _, _ => rfl
  | v :: own, vs, h => by
    show wipe ((wipe σ own).set v none) vs = _
    rw [wipe_set (h v List.mem_cons_self), wipe_wipe σ own vs fun i hi => h i (List.mem_cons_of_mem _ hi)]
abbrev W0 : WX := fun _ _ _ _ => False
def PTsm (X : Cx) (F0 H0 : Hp) (ifs : List Expr) (p : TM) : Prop := PTs X ifs (tTm X.K X.mg F0 H0 W0 p)
section
variable {X : Cx} {F0 H0 : Hp} {W : WX}
theorem PTs.imp {ifs : List Expr} {t t' : TT} (h : PTs X ifs t) (f : ∀ σ H Q, t' σ H Q → t σ H Q) : PTs X ifs t' := ⟨fun pins s σ H Q I q => h.run pins s σ H Q I (f σ H Q q)⟩
def pYes : TM := fun _ => .ok true
theorem tsm_nil : PTsm X F0 H0 [] pYes := PTs.imp pts_nil fun σ H Q ⟨F, ρ, r, g⟩ => g F H (Ext.refl r.fh)
theorem tsm_one {c : Expr} {p : TM} (h : PTm X F0 H0 W0 c p) : PTsm X F0 H0 [c] p := pts_one h
variable {K : PySem.W.Frag} {mg : Str → Option Value}
/-- the reading of a comprehension -/
theorem lc_read {wi : TI} {g : TG} {own : List Nat} {gm : GM} {p : TM} {me : EM} {mi : AM} (hw : ∀ σ H R, tIm K mg F0 H0 W mi σ H R → wi σ H R) (gok : GOk K mg F0 H0 g own gm) :
    ∀ σ H Q, tEf K mg F0 H0 W (eLc own gm mi p me) σ H Q → tLc wi g (tTm K mg F0 H0 W0 p) (tE K mg F0 H0 W0 me) own σ H Q := by
  rintro σ H Q ⟨F, ρ, r, q⟩
  refine hw σ H _ ⟨F, ρ, r, q.bind.imp fun ds k F1 H1 J x1 ok L nD => ?_⟩
  by_cases hl : ds.length ≤ lim
  case neg => rw [if_neg hl] at k; exact False.elim k
  rw [if_pos hl] at k
  have r1 := r.ext x1
  have nF1 : F1 L = none := r1.fh.free nD
  have k1 : Got mg W F1 H1 σ (compD gm p me (wipeE ρ own) ds) fun es => ∀ F' H', Ext F1 H1 F' H' → F' L = none → OwnAt K mg F' H' L (.lst es) → Q (.ref L) H' :=
    ((k.bind).move x1).imp fun es z F' H' x2 n o => z F' H' L (x1.trans x2) n (x1.hh.free nD) o
  refine ⟨fun i m H => i ≤ ds.length ∧ m = ds.length - i ∧ ∃ F2 acc accD, Ext F1 H1 F2 H ∧ H L = some (.lst acc) ∧ DatL K mg F2 acc accD ∧ acc.length ≤ i ∧ F2 L = none ∧
    Got mg W F1 H1 σ (compD gm p me (wipeE ρ own) (ds.drop i)) (fun es => ∀ F' H', Ext F1 H1 F' H' → F' L = none → OwnAt K mg F' H' L (.lst (accD ++ es)) → Q (.ref L) H'), ⟨ds.length, Nat.zero_le _, rfl, F1, [], [], ⟨Same.refl _, r1.fh.trans (same_upd nD), same_upd nD, fun a o e n => by rw [n] at e; cases e⟩, upd_same, .nil, Nat.le_refl _, nF1, ?_⟩, ?_⟩
  · exact k1
  rintro i m H2 ⟨hi, rfl, F2, acc, accD, x2, hD, l, hal, nF2, k2⟩
  obtain ⟨okg, oks⟩ := ok i F2 H2 x2.ff x2.fh
  by_cases hlt : i < ds.length
  · right
    obtain ⟨go, yl⟩ := okg ds[i] (List.getElem?_eq_getElem hlt)
    rw [List.drop_eq_getElem_cons hlt] at k2
    have k3 : Got mg W F1 H1 σ ((R.of (gm (wipeE ρ own) ds[i])).bind fun ρ1 => (p ρ1).nx.bind fun b => if b then (me ρ1).nx.bind fun e => (compD gm p me (wipeE ρ own) (ds.drop (i + 1))).bind fun es => .ok (e :: es) else compD gm p me (wipeE ρ own) (ds.drop (i + 1))) (fun es => ∀ F' H', Ext F1 H1 F' H' → F' L = none → OwnAt K mg F' H' L (.lst (accD ++ es)) → Q (.ref L) H') := k2
    obtain ⟨ρ1, eg, k4⟩ := k3.bind.of
    refine ⟨go, fun H => ∃ F2 acc accD, Ext F1 H1 F2 H ∧ H L = some (.lst acc) ∧ DatL K mg F2 acc accD ∧ acc.length ≤ i + 1 ∧ F2 L = none ∧
      Got mg W F1 H1 σ (compD gm p me (wipeE ρ own) (ds.drop (i + 1))) (fun es => ∀ F' H', Ext F1 H1 F' H' → F' L = none → OwnAt K mg F' H' L (.lst (accD ++ es)) → Q (.ref L) H'), fun H' n => ⟨_, by omega, by omega, rfl, n⟩, fun v H3 y => ?_⟩
    obtain ⟨F3, x3, dv⟩ := yl v H3 y
    have r3 : Rel K mg F0 H0 F3 (wipe σ own) H3 (wipeE ρ own) := ((r1.ext x2).ext x3).wipe own
    have nF3 : F3 L = none := x3.own nF2 hD trivial
    refine gok F3 _ H3 _ ρ1 v _ _ r3 dv eg fun σ2 r4 w => ⟨?_, ?_⟩
    · rw [w own fun _ h => h, wipe_wipe σ own own fun _ h => h]
    refine ⟨F3, ρ1, r4, (k4.nx (W0 := W0) (σ2 := σ2)).move (x2.trans x3) |>.imp fun b k5 F4 H4 x4 => ?_⟩
    cases b with
    | true =>
      rw [if_pos rfl] at k5 ⊢
      refine ⟨F4, ρ1, r4.ext x4, (k5.nx (W0 := W0) (σ2 := σ2)).move (x2.trans (x3.trans x4)) |>.imp fun e k6 F5 H5 u x5 du => ?_⟩
      have hD5 : H5 L = some (.lst acc) := x5.hh _ _ (x4.hh _ _ (x3.hh _ _ hD))
      have nF5 : F5 L = none := x5.own (x4.own nF3 (x3.hh _ _ hD) trivial) (x4.hh _ _ (x3.hh _ _ hD)) trivial
      have x15 := x2.trans (x3.trans (x4.trans x5))
      have nH1 : H1 L = none := nD
      have x16 : Ext F1 H1 F5 (upd H5 L (.lst (acc ++ [u]))) := ⟨x15.ff, fun c w hc => by rw [upd_ne (ne_of_none hc nF5)]; exact x15.fh c w hc, fun c w hc => by rw [upd_ne (ne_of_none hc nH1)]; exact x15.hh c w hc, x15.nw⟩
      refine ⟨acc, hD5, lim_lt (by omega), F5, acc ++ [u], accD ++ [e], x16, upd_same, (l.mono (x3.ff.trans (x4.ff.trans x5.ff))).snoc du, by rw [List.length_append]; show acc.length + 1 ≤ i + 1; omega, nF5, ?_⟩
      refine (k6.bind).imp fun es z F' H' x n o => ?_
      have z' : ∀ F' H', Ext F1 H1 F' H' → F' L = none → OwnAt K mg F' H' L (.lst (accD ++ (e :: es))) → Q (.ref L) H' := z
      refine z' F' H' x n ?_
      rw [List.append_assoc] at o
      exact o
    | false =>
      rw [if_neg Bool.false_ne_true] at k5 ⊢
      exact ⟨F4, acc, accD, x2.trans (x3.trans x4), x4.hh _ _ (x3.hh _ _ hD), l.mono (x3.ff.trans x4.ff), by omega, x4.own nF3 (x3.hh _ _ hD) trivial, k5⟩
  · left
    have e : i = ds.length := by omega
    subst e
    refine ⟨oks (Nat.le_refl _), ?_⟩
    rw [List.drop_length] at k2
    have k3 : ∀ F' H', Ext F1 H1 F' H' → F' L = none → OwnAt K mg F' H' L (.lst (accD ++ [])) → Q (.ref L) H' := k2
    rw [List.append_nil] at k3
    exact k3 F2 H2 x2 nF2 ⟨acc, hD, l⟩
end
end L2.Pv

set_option Elab.async false
set_option linter.all false
set_option maxRecDepth 100000
set_option maxHeartbeats 4000000
set_option autoImplicit false
/-! Statements. -/
namespace L2.Pv
open PySem PySem.Spec PyProof.Rows

section
variable {X : Cx} {F0 H0 : Hp} {W : WX}
theorem fm_lc {elt tg iter : Expr} {ifs : List Expr} {scope : Scope} {own : List (Str × Nat)} {pos : Pos} {g : TG} {gm : GM} {p : TM} {me : EM} {mi : AM} (hc : X.calm = true) (hN : X.N.Nodup) (hi : PIm X F0 H0 W tg iter mi) (ok : BlkOk X.N X.env.scope scope own)
    (gok : GOk X.K X.mg F0 H0 g (own.map (·.2)) gm)
    (hg : ∀ (s : Shared) (H : Hp) (C : Addr) (cl : List (Str × Addr)) (fp : List Addr), PG (X.blk s H scope (compEnvC scope cl C X.env) fp) tg g) (ht : ∀ (s : Shared) (H : Hp) (C : Addr) (cl : List (Str × Addr)) (fp : List Addr), PTsm (X.blk s H scope (compEnvC scope cl C X.env) fp) F0 H0 ifs p)
    (he : ∀ (s : Shared) (H : Hp) (C : Addr) (cl : List (Str × Addr)) (fp : List Addr), PEm (X.blk s H scope (compEnvC scope cl C X.env) fp) F0 H0 W0 elt me) (hs : ∀ x, foldedSetIterable iter X.env x = pure x := by intro _; rfl) :
    PFm X F0 H0 W (.ListComp elt [⟨tg, iter, ifs, 0⟩] scope pos) (eLc (own.map (·.2)) gm mi p me) :=
  PE.imp (pe_lc (tt := tTm X.K X.mg F0 H0 W0 p) (te := tE X.K X.mg F0 H0 W0 me) hc hN hi ok hg ht he hs) (lc_read (fun _ _ _ z => z) gok)
end

/-- what a statement comes to -/
inductive Out where
  | nx (ρ : Env) | rt (d : D) | bk (ρ : Env) | ct (ρ : Env) | rs (c : Str) (ρ : Env) | no
abbrev SM := Env → Out
section
variable (K : PySem.W.Frag) (mg : Str → Option Value) (F0 H0 : Hp) (W : WX)
def OutOk (D : Ends) : Out → Prop
  | .nx ρ => ∀ F σ H, Rel K mg F0 H0 F σ H ρ → D.nx σ H
  | .rt d => ∀ F H v, Ext F0 H0 F H → Dat K mg F v d → D.rt v H
  | .bk ρ => ∀ F σ H, Rel K mg F0 H0 F σ H ρ → D.bk σ H
  | .ct ρ => ∀ F σ H, Rel K mg F0 H0 F σ H ρ → D.ct σ H
  | .rs c ρ => ∀ F σ H C, Rel K mg F0 H0 F σ H ρ → mg c = some (Value.ref C) → W (.ref C) none σ H
  | .no => False
def tSm (m : SM) : TS := fun D σ H => ∃ F ρ, Rel K mg F0 H0 F σ H ρ ∧ OutOk K mg F0 H0 W D (m ρ)
end
def PSm (X : Cx) (F0 H0 : Hp) (W : WX) (st : Stmt) (m : SM) : Prop := PS X st (tSm X.K X.mg F0 H0 W m)
def PSsm (X : Cx) (F0 H0 : Hp) (W : WX) (st : List Stmt) (m : SM) : Prop := PSs X st (tSm X.K X.mg F0 H0 W m)
/-- a value on the way of a statement -/
def R.out {α : Type} (r : R α) (ρ : Env) (k : α → Out) : Out := match r with
  | .ok a => k a
  | .ex c => .rs c ρ
  | .no => .no
@[simp] theorem R.ok_out {α : Type} (a : α) (ρ : Env) (k : α → Out) : (R.ok a).out ρ k = k a := nr rfl
@[simp] theorem R.ex_out {α : Type} (c : Str) (ρ : Env) (k : α → Out) : (R.ex c : R α).out ρ k = .rs c ρ := nr rfl
@[simp] theorem R.no_out {α : Type} (ρ : Env) (k : α → Out) : (R.no : R α).out ρ k = .no := nr rfl
def Out.seq (o : Out) (n : SM) : Out := match o with
  | .nx ρ => n ρ
  | o => o
section
variable {K : PySem.W.Frag} {mg : Str → Option Value} {F0 H0 F H : Hp} {W : WX} {σ : St} {ρ : Env} {D : Ends}
theorem OutOk.got {α : Type} {r : R α} {k : α → Out} (rel : Rel K mg F0 H0 F σ H ρ) (h : OutOk K mg F0 H0 W D (r.out ρ k)) : Got mg W F H σ r fun a => OutOk K mg F0 H0 W D (k a) := by
  cases r with
  | ok a => exact h
  | ex c => exact fun F' H' C x e => h F' σ H' C (rel.ext x) e
  | no => exact h
end
section
variable {X : Cx} {F0 H0 : Hp} {W : WX} {st : Stmt} {rest : List Stmt} {m n : SM} {e a b : Expr} {me ma mb : EM} {pos : Pos}
theorem PS.imp {t t' : TS} (h : PS X st t) (f : ∀ D σ H, t' D σ H → t D σ H) : PS X st t' := ⟨fun pins s σ H D I q => h.run pins s σ H D I (f D σ H q)⟩
theorem PSs.imp {t t' : TS} (h : PSs X rest t) (f : ∀ D σ H, t' D σ H → t D σ H) : PSs X rest t' := ⟨fun pins s σ H D I q => h.run pins s σ H D I (f D σ H q)⟩
def sSeq (m n : SM) : SM := fun ρ => (m ρ).seq n
theorem sm_nil : PSsm X F0 H0 W [] (fun ρ => .nx ρ) := PSs.imp pss_nil fun D σ H ⟨F, ρ, r, h⟩ => h F σ H r
theorem sm_cons (h1 : PSm X F0 H0 W st m) (h2 : PSsm X F0 H0 W rest n) : PSsm X F0 H0 W (st :: rest) (sSeq m n) := by
  refine PSs.imp (pss_cons h1 h2) fun D σ H ⟨F, ρ, r, h⟩ => ⟨F, ρ, r, ?_⟩
  unfold sSeq at h
  cases q : m ρ with
  | nx ρ1 => rw [q] at h; exact fun F' σ' H' r' => ⟨F', ρ1, r', h⟩
  | rt d => rw [q] at h; exact h
  | bk ρ1 => rw [q] at h; exact h
  | ct ρ1 => rw [q] at h; exact h
  | rs c ρ1 => rw [q] at h; exact h
  | no => rw [q] at h; exact h
theorem sm_one (h1 : PSm X F0 H0 W st m) : PSsm X F0 H0 W [st] m := pss_one h1
/-- slots forgotten -/
def fgs (is : List Nat) (ρ : Env) : Env := is.foldl (fun ρ i => ρ.set i none) ρ
theorem Rel.fgs {K : PySem.W.Frag} {mg : Str → Option Value} {F H : Hp} {σ : St} : ∀ (is : List Nat) {ρ : Env}, Rel K mg F0 H0 F σ H ρ → Rel K mg F0 H0 F σ H (Pv.fgs is ρ)
  | [], _, r => r
  | i :: is, _, r => Rel.fgs is (r.forget i)
/-- a slot frozen -/
def fz (i : Nat) (ρ : Env) : Env := match ρ[i]? with
  | some (some (.own d)) => ρ.set i (some (.val d))
  | _ => ρ
def sFz (i : Nat) (m : SM) : SM := fun ρ => m (fz i ρ)
theorem sm_fz (i : Nat) (h : PSm X F0 H0 W st m) : PSm X F0 H0 W st (sFz i m) := by
  refine ⟨fun pins s σ H D I ⟨F, ρ, r, q⟩ => ?_⟩
  unfold sFz fz at q
  split at q
  · rename_i d e
    obtain ⟨a, u, hu, mu, k⟩ := r.freeze e
    obtain ⟨ob, I2⟩ := Inv.frozen I hu mu
    obtain ⟨F', _, r'⟩ := k ob
    exact h.run pins s σ _ D I2 ⟨F', _, r', q⟩
  · exact h.run pins s σ H D I ⟨F, ρ, r, q⟩
def sRet (m : EM) : SM := fun ρ => (m ρ).out ρ .rt
theorem sm_ret (he : PEm X F0 H0 W e me) : PSm X F0 H0 W (.Return (some e) pos) (sRet me) := by
  refine PS.imp (ps_ret he) fun D σ H ⟨F, ρ, r, h⟩ => ⟨F, ρ, r, (OutOk.got r h).imp fun d k F' H' v x q => k F' H' v (r.toExt.trans x) q⟩
theorem sm_retN : PSm X F0 H0 W (.Return none pos) (fun _ => .rt .non) := PS.imp ps_retN fun D σ H ⟨F, ρ, r, h⟩ => h F H _ r.toExt .non
theorem sm_pass : PSm X F0 H0 W (.Pass pos) (fun ρ => .nx ρ) := PS.imp ps_pass fun D σ H ⟨F, ρ, r, h⟩ => h F σ H r
theorem sm_break : PSm X F0 H0 W (.Break pos) (fun ρ => .bk ρ) := PS.imp ps_break fun D σ H ⟨F, ρ, r, h⟩ => h F σ H r
theorem sm_continue : PSm X F0 H0 W (.Continue pos) (fun ρ => .ct ρ) := PS.imp ps_continue fun D σ H ⟨F, ρ, r, h⟩ => h F σ H r
theorem sm_doc {x : Str} {j : Nat} {p2 : Pos} : PSm X F0 H0 W (.Expr (.Constant (.str x) j p2) pos) (fun ρ => .nx ρ) := PS.imp ps_doc fun D σ H ⟨F, ρ, r, h⟩ => h F σ H r
def sExpr (m : EM) : SM := fun ρ => (m ρ).out ρ fun _ => .nx ρ
theorem sm_expr (he : PEm X F0 H0 W e me) (hs : swapsWith e none pos.line X.env = pure false := by rfl) : PSm X F0 H0 W (.Expr e pos) (sExpr me) :=
  PS.imp (ps_expr he hs) fun D σ H ⟨F, ρ, r, h⟩ => ⟨F, ρ, r, (OutOk.got r h).imp fun d k F' H' v x q => k F' σ H' (r.ext x)⟩
def sIf (p : TM) (m n : SM) : SM := fun ρ => (p ρ).out ρ fun b => if b then m ρ else n ρ
theorem sm_if {p : TM} {xs ys : List Stmt} (hc : PTm X F0 H0 W e p) (h1 : PSsm X F0 H0 W xs m) (h2 : PSsm X F0 H0 W ys n) : PSm X F0 H0 W (.If e xs ys pos) (sIf p m n) := by
  refine PS.imp (ps_if hc h1 h2) fun D σ H ⟨F, ρ, r, h⟩ => ⟨F, ρ, r, (OutOk.got r h).imp fun b k F' H' x => ?_⟩
  cases b with
  | true => rw [if_pos rfl]; exact ⟨F', ρ, r.ext x, k⟩
  | false => rw [if_neg Bool.false_ne_true]; exact ⟨F', ρ, r.ext x, k⟩
def sSet (i : Nat) (m : EM) : SM := fun ρ => (m ρ).out ρ fun d => .nx (ρ.set i (some (.val d)))
def sSetF (i : Nat) (m : EM) : SM := fun ρ => (m ρ).out ρ fun d => .nx (ρ.set i (some (.own d)))
theorem asg_read {te : TE} {i : Nat} (h : ∀ σ H Q, tE X.K X.mg F0 H0 W me σ H Q → te σ H Q) : ∀ D σ H, tSm X.K X.mg F0 H0 W (sSet i me) D σ H → tAsg te (gName i) D σ H := fun D σ H ⟨F, ρ, r, q⟩ =>
  h σ H _ ⟨F, ρ, r, (OutOk.got r q).imp fun d k F' H' v x z => k F' _ H' ((r.ext x).put i z)⟩
theorem asgF_read {te : TE} {i : Nat} (h : ∀ σ H Q, tEf X.K X.mg F0 H0 W me σ H Q → te σ H Q) : ∀ D σ H, tSm X.K X.mg F0 H0 W (sSetF i me) D σ H → tAsg te (gName i) D σ H := fun D σ H ⟨F, ρ, r, q⟩ =>
  h σ H _ ⟨F, ρ, r, (OutOk.got r q).imp fun d k F' H' a x n n0 o => k F' _ H' ((r.ext x).putOwn i o n (r.h0.free n0) fun j e _ h1 h2 => by
    obtain ⟨v, hv, b, hb, _, o'⟩ := r.sl j _ h1
    obtain ⟨u, hu, _⟩ := o'.some
    rw [h2] at hv
    cases hv; cases hb
    rw [n0] at hu; cases hu)⟩
theorem sm_set {i : Nat} {x : Str} {p2 : Pos} (hN : X.N.Nodup) (hi : X.N[i]? = some x) (hx : Loc X.env.scope x) (he : PEm X F0 H0 W e me) (hs : swapsWith e (some (.Name x p2)) pos.line X.env = pure false := by rfl) (hf : X.fn x = true ∨ X.env.scope.names.lookup x = some .local := by first | exact .inl rfl | exact .inr rfl | assumption) :
    PSm X F0 H0 W (.Assign [.Name x p2] e pos) (sSet i me) := PS.imp (ps_set hN hi hx he hs hf) (asg_read fun _ _ _ z => z)
theorem sm_setF {i : Nat} {x : Str} {p2 : Pos} (hN : X.N.Nodup) (hi : X.N[i]? = some x) (hx : Loc X.env.scope x) (he : PFm X F0 H0 W e me) (hs : swapsWith e (some (.Name x p2)) pos.line X.env = pure false := by rfl) (hf : X.fn x = true ∨ X.env.scope.names.lookup x = some .local := by first | exact .inl rfl | exact .inr rfl | assumption) :
    PSm X F0 H0 W (.Assign [.Name x p2] e pos) (sSetF i me) := PS.imp (ps_set hN hi hx he hs hf) (asgF_read fun _ _ _ z => z)
/-- a comprehension gives a list: frozen at once -/
theorem lc_em {own : List Nat} {gm : GM} {p : TM} {mi : AM} {K : PySem.W.Frag} {mg : Str → Option Value} : ∀ σ H Q, tE K mg F0 H0 W (eLc own gm mi p me) σ H Q → tEf K mg F0 H0 W (eLc own gm mi p me) σ H Q := by
  rintro σ H Q ⟨F, ρ, r, q⟩
  refine ⟨F, ρ, r, ?_⟩
  have isl : ∀ d, eLc own gm mi p me ρ = .ok d → ∃ ds, d = .lst ds := fun d h => by
    unfold eLc at h
    cases h1 : mi ρ with
    | ok ds =>
      rw [h1, R.ok_bind] at h
      split at h
      · cases h2 : compD gm p me (wipeE ρ own) ds with
        | ok es => rw [h2, R.ok_bind] at h; cases h; exact ⟨es, rfl⟩
        | ex c => rw [h2] at h; cases h
        | no => rw [h2] at h; cases h
      · cases h
    | ex c => rw [h1] at h; cases h
    | no => rw [h1] at h; cases h
  cases z : eLc own gm mi p me ρ with
  | ok d =>
    rw [z] at q
    obtain ⟨ds, rfl⟩ := isl d z
    intro F' H' a x n n0 ⟨vs, hu, l⟩
    refine q (upd F' a (.lst vs)) H' (.ref a) ⟨x.ff.trans (same_upd n), fun c w hc => ?_, x.hh, fun c w hc hn => ?_⟩ (.lst upd_same (l.mono (same_upd n)))
    · by_cases q : c = a
      · subst q; rw [upd_same] at hc; cases hc; exact hu
      · rw [upd_ne q] at hc; exact x.fh c w hc
    · by_cases q : c = a
      · subst q; exact .inl n0
      · rw [upd_ne q] at hc; exact x.nw c w hc hn
  | ex c => rw [z] at q; exact q
  | no => rw [z] at q; exact q
theorem sm_setLcF {i : Nat} {y : Str} {py : Pos} {elt tg iter : Expr} {ifs : List Expr} {scope : Scope} {own : List (Str × Nat)} {pos spos : Pos} {g : TG} {gm : GM} {p : TM} {mi : AM} (hc : X.calm = true) (hN : X.N.Nodup) (hy : X.N[i]? = some y) (hyl : X.env.scope.names.lookup y = some .local)
    (hsw : swapsWith (.ListComp elt [⟨tg, iter, ifs, 0⟩] scope pos) (some (.Name y py)) spos.line X.env = pure true) (hi : PIm X F0 H0 W tg iter mi) (ok : BlkOk X.N X.env.scope scope own) (gok : GOk X.K X.mg F0 H0 g (own.map (·.2)) gm)
    (hg : ∀ (s : Shared) (H : Hp) (C : Addr) (cl : List (Str × Addr)) (fp : List Addr), PG (X.blk s H scope (compEnvC scope cl C X.env) fp) tg g) (ht : ∀ (s : Shared) (H : Hp) (C : Addr) (cl : List (Str × Addr)) (fp : List Addr), PTsm (X.blk s H scope (compEnvC scope cl C X.env) fp) F0 H0 ifs p)
    (he : ∀ (s : Shared) (H : Hp) (C : Addr) (cl : List (Str × Addr)) (fp : List Addr), PEm (X.blk s H scope (compEnvC scope cl C X.env) fp) F0 H0 W0 elt me) (hs : ∀ x, foldedSetIterable iter X.env x = pure x := by intro _; rfl) :
    PSm X F0 H0 W (.Assign [.Name y py] (.ListComp elt [⟨tg, iter, ifs, 0⟩] scope pos) spos) (sSetF i (eLc (own.map (·.2)) gm mi p me)) :=
  PS.imp (ps_setLc (tt := tTm X.K X.mg F0 H0 W0 p) (te := tE X.K X.mg F0 H0 W0 me) hc hN hy hyl hsw hi ok hg ht he hs) (asgF_read (lc_read (fun _ _ _ z => z) gok))
theorem sm_setLc {i : Nat} {y : Str} {py : Pos} {elt tg iter : Expr} {ifs : List Expr} {scope : Scope} {own : List (Str × Nat)} {pos spos : Pos} {g : TG} {gm : GM} {p : TM} {mi : AM} (hc : X.calm = true) (hN : X.N.Nodup) (hy : X.N[i]? = some y) (hyl : X.env.scope.names.lookup y = some .local)
    (hsw : swapsWith (.ListComp elt [⟨tg, iter, ifs, 0⟩] scope pos) (some (.Name y py)) spos.line X.env = pure true) (hi : PIm X F0 H0 W tg iter mi) (ok : BlkOk X.N X.env.scope scope own) (gok : GOk X.K X.mg F0 H0 g (own.map (·.2)) gm)
    (hg : ∀ (s : Shared) (H : Hp) (C : Addr) (cl : List (Str × Addr)) (fp : List Addr), PG (X.blk s H scope (compEnvC scope cl C X.env) fp) tg g) (ht : ∀ (s : Shared) (H : Hp) (C : Addr) (cl : List (Str × Addr)) (fp : List Addr), PTsm (X.blk s H scope (compEnvC scope cl C X.env) fp) F0 H0 ifs p)
    (he : ∀ (s : Shared) (H : Hp) (C : Addr) (cl : List (Str × Addr)) (fp : List Addr), PEm (X.blk s H scope (compEnvC scope cl C X.env) fp) F0 H0 W0 elt me) (hs : ∀ x, foldedSetIterable iter X.env x = pure x := by intro _; rfl) :
    PSm X F0 H0 W (.Assign [.Name y py] (.ListComp elt [⟨tg, iter, ifs, 0⟩] scope pos) spos) (sSet i (eLc (own.map (·.2)) gm mi p me)) :=
  PS.imp (ps_setLc (tt := tTm X.K X.mg F0 H0 W0 p) (te := tE X.K X.mg F0 H0 W0 me) hc hN hy hyl hsw hi ok hg ht he hs) (asg_read fun σ H Q z => lc_read (fun _ _ _ z => z) gok σ H Q (lc_em σ H Q z))

/-! ### targets of several names, o[i] = e, += -/
def sAsg (gm : GM) (m : EM) : SM := fun ρ => (m ρ).out ρ fun d => match gm ρ d with
  | some ρ1 => .nx ρ1
  | none => .no
theorem sm_asg {tg : Expr} {g : TG} {is : List Nat} {gm : GM} (he : PEm X F0 H0 W e me) (gok : GOk X.K X.mg F0 H0 g is gm) (hg : PG X tg g) (hs : swapsWithSole [tg] e pos.line X.env = pure false := by rfl) (hw : swappedStores [tg] e X.env = pure none := by rfl)
    (h1 : (assignEach [tg] X.env).map (·.2) = [assign tg X.env] := by rfl) : PSm X F0 H0 W (.Assign [tg] e pos) (sAsg gm me) := by
  refine PS.imp (ps_asg he hg hs hw h1) fun D σ H ⟨F, ρ, r, h⟩ => ⟨F, ρ, r, (OutOk.got r h).imp fun d k F' H' v x q => ?_⟩
  cases z : gm ρ d with
  | none => rw [z] at k; exact False.elim k
  | some ρ1 =>
    rw [z] at k
    exact gok F' σ H' ρ ρ1 v d _ (r.ext x) q z fun σ' r' _ => k F' σ' H' r'
/-- a, b = x, y -/
def sPar2 (i j : Nat) (ma mb : EM) : SM := fun ρ => (aAll [ma, mb] ρ).out ρ fun ds => match ds with
  | [x, y] => .nx ((ρ.set i (some (.val x))).set j (some (.val y)))
  | _ => .no
theorem sm_par2 {i j : Nat} {x y : Str} {px py pt : Pos} {kt k2 : Nat} {pt2 : Pos} (hc : X.calm = true) (hN : X.N.Nodup) (hi : X.N[i]? = some x) (hj : X.N[j]? = some y) (hij : i ≠ j)
    (hx : X.env.scope.names.lookup x = some .local) (hy : X.env.scope.names.lookup y = some .local) (ha : PAm X F0 H0 W [a, b] [ma, mb])
    (hw : swappedStores [.Tuple [.Name x px, .Name y py] kt pt] (.Tuple [a, b] k2 pt2) X.env = pure (some [x, y]))
    (hs : swapsWithSole [.Tuple [.Name x px, .Name y py] kt pt] (.Tuple [a, b] k2 pt2) pos.line X.env = pure false := by rfl) :
    PSm X F0 H0 W (.Assign [.Tuple [.Name x px, .Name y py] kt pt] (.Tuple [a, b] k2 pt2) pos) (sPar2 i j ma mb) := by
  refine PS.imp (ps_par hc hN hi hj hij hx hy ha hw hs) fun D σ H ⟨F, ρ, r, h⟩ => ⟨F, ρ, r, (OutOk.got r h).imp fun ds k F' H' vs x l => ?_⟩
  split at k
  · cases l with | cons h1 l => cases l with | cons h2 l =>
    cases l
    exact ⟨_, _, rfl, k F' _ H' (((r.ext x).put i h1).put j h2)⟩
  · exact False.elim k
/-- raise X('..') -/
theorem sm_raise {x t : Str} {j : Nat} {p1 p2 p3 : Pos} {C : Addr} (hc : X.calm = true) (tk : Takes X W) (q : PySem.W.excIn X.K C He.veBase "ValueError.__new__" = true) (gC : X.mg x = some (.ref C)) (kC : PySem.W.keepIn X.K (.ref C) = true) (rz : Raises X (.ref C)) (hg : Gl X x)
    (hdb : (x == ("__debug__" : Str)) = false := by decide) : PSm X F0 H0 W (.Raise (some (.Call (.Name x p1) [.Constant (.str t) j p2] [] p3)) none pos) (fun ρ => .rs x ρ) :=
  PS.imp (ps_raise hc tk (pmk_own PySem.F.excBase_ValueError q gC kC rz hg hdb)) fun D σ H ⟨F, ρ, r, h⟩ => h F σ H C r gC

/-! ### for, while -/
def forD (junk : List Nat) (gm : GM) (body : SM) : List D → SM
  | [], ρ => .nx ρ
  | d :: ds, ρ => match gm ρ d with
    | none => .no
    | some ρ1 => match body ρ1 with
      | .nx ρ2 => forD junk gm body ds (fgs junk ρ2)
      | .ct ρ2 => forD junk gm body ds (fgs junk ρ2)
      | .bk ρ2 => .nx (fgs junk ρ2)
      | o => o
def sFor (junk : List Nat) (gm : GM) (mi : AM) (body : SM) : SM := fun ρ => (mi ρ).out ρ fun ds => forD junk gm body ds (fgs junk ρ)
theorem Rel.up {K : PySem.W.Frag} {mg : Str → Option Value} {F F1 H : Hp} {σ : St} {ρ : Env} (r : Rel K mg F0 H0 F σ H ρ) (s0 : Same F0 F1) (s : Same F1 F) : Rel K mg F1 H0 F σ H ρ :=
  ⟨r.fh, s, r.h0, fun a o e n => r.nw a o e (s0.free n), r.len, r.sl, r.ow, r.un⟩
theorem nw_down {F F1 H : Hp} (x : Ext F0 H0 F1 H) (s : Same F1 F) (nw : ∀ a o, F a = some o → F1 a = none → H0 a = none ∨ ∃ xs, o = .tup xs) : ∀ a o, F a = some o → F0 a = none → H0 a = none ∨ ∃ xs, o = .tup xs := fun a o e n => by
  cases q : F1 a with
  | none => exact nw a o e q
  | some u =>
    have z := s a u q
    rw [e] at z; cases z
    exact x.nw a _ q n
theorem Rel.down {K : PySem.W.Frag} {mg : Str → Option Value} {F F1 H H1 : Hp} {σ : St} {ρ : Env} (r : Rel K mg F1 H0 F σ H ρ) (x : Ext F0 H0 F1 H1) : Rel K mg F0 H0 F σ H ρ :=
  ⟨r.fh, x.ff.trans r.f0, r.h0, nw_down x r.f0 r.nw, r.len, r.sl, r.ow, r.un⟩
theorem Ext.down {F F1 H H1 : Hp} (r : Ext F1 H0 F H) (x : Ext F0 H0 F1 H1) : Ext F0 H0 F H := ⟨x.ff.trans r.ff, r.fh, r.hh, nw_down x r.ff r.nw⟩
theorem sm_for {tg iter : Expr} {body : List Stmt} {g : TG} {is junk : List Nat} {gm : GM} {mi : AM} (hp : PassesOwn (model X.prog X.w) X.A X.env X.xe) (hc : X.calm = true) (hi : PIm X F0 H0 W tg iter mi) (gok : GOk X.K X.mg F0 H0 g is gm) (hg : PG X tg g) (hb : ∀ F0, PSsm X F0 H0 W body m)
    (hs : ∀ x, foldedSetIterable iter X.env x = pure x := by intro _; rfl) : PSm X F0 H0 W (.For tg iter body [] pos) (sFor junk gm mi m) := by
  refine ⟨fun pins s σ H D I ⟨F, ρ, r, h⟩ => ?_⟩
  -- the items stand frozen through the loop: the body is run over them
  have hb' : PSs X body fun D σ H => ∃ F1, tSm X.K X.mg F1 H0 W m D σ H := ⟨fun pins s σ H D I ⟨F1, q⟩ => (hb F1).run pins s σ H D I q⟩
  refine (ps_for hp hc hi hg hb' hs).run pins s σ H D I ⟨F, ρ, r, (OutOk.got r h).imp fun ds k F1 H1 J x ok => ?_⟩
  refine ⟨fun i n σ H => i ≤ ds.length ∧ n = ds.length - i ∧ ∃ F2 ρ2, Same F1 F2 ∧ Rel X.K X.mg F0 H0 F2 σ H ρ2 ∧ OutOk X.K X.mg F0 H0 W D (forD junk gm m (ds.drop i) ρ2), ⟨ds.length, Nat.zero_le _, rfl, F1, fgs junk ρ, Same.refl _, Rel.fgs junk (r.ext x), k⟩, ?_⟩
  rintro i n σ2 H2 ⟨hi, rfl, F2, ρ2, ff, r2, k2⟩
  obtain ⟨okg, oks⟩ := ok i F2 H2 ff r2.fh
  by_cases hlt : i < ds.length
  · right
    obtain ⟨go, yl⟩ := okg ds[i] (List.getElem?_eq_getElem hlt)
    rw [List.drop_eq_getElem_cons hlt] at k2
    unfold forD at k2
    refine ⟨go, fun σ H => ∃ F2 ρ2, Same F1 F2 ∧ Rel X.K X.mg F0 H0 F2 σ H ρ2 ∧ OutOk X.K X.mg F0 H0 W D (forD junk gm m (ds.drop (i + 1)) ρ2), fun σ' H' n => ⟨_, by omega, by omega, rfl, n⟩, fun v H3 y => ?_⟩
    obtain ⟨F3, x3, dv⟩ := yl v H3 y
    cases z : gm ρ2 ds[i] with
    | none => rw [z] at k2; exact False.elim k2
    | some ρ3 =>
      rw [z] at k2
      refine gok F3 _ H3 _ ρ3 v _ _ (r2.ext x3) dv z fun σ4 r4 _ => ⟨F1, F3, ρ3, r4.up (r.ext x).f0 (ff.trans x3.ff), ?_⟩
      have x1 := (r.ext x).toExt
      dsimp only at k2
      cases zz : m ρ3 with
      | nx ρ5 => rw [zz] at k2; exact fun F σ H r => ⟨F, _, r.f0, Rel.fgs junk (r.down x1), k2⟩
      | ct ρ5 => rw [zz] at k2; exact fun F σ H r => ⟨F, _, r.f0, Rel.fgs junk (r.down x1), k2⟩
      | bk ρ5 => rw [zz] at k2; exact fun F σ H r => k2 F σ H (Rel.fgs junk (r.down x1))
      | rt d => rw [zz] at k2; exact fun F H v e q => k2 F H v (e.down x1) q
      | rs c ρ5 => rw [zz] at k2; exact fun F σ H C r e => k2 F σ H C (r.down x1) e
      | no => rw [zz] at k2; exact k2
  · left
    have e : i = ds.length := by omega
    subst e
    rw [List.drop_length] at k2
    exact ⟨oks (Nat.le_refl _), k2 F2 σ2 H2 r2⟩
def whileD (junk : List Nat) (p : TM) (body : SM) : Nat → SM
  | 0, _ => .no
  | n + 1, ρ => (p ρ).out ρ fun b => if b then match body ρ with
      | .nx ρ2 => whileD junk p body n (fgs junk ρ2)
      | .ct ρ2 => whileD junk p body n (fgs junk ρ2)
      | .bk ρ2 => .nx (fgs junk ρ2)
      | o => o
    else .nx ρ
def sWhile (n : Nat) (junk : List Nat) (p : TM) (body : SM) : SM := fun ρ => whileD junk p body n (fgs junk ρ)
theorem sm_while {n : Nat} {c : Expr} {body : List Stmt} {junk : List Nat} {p : TM} (hp : PassesOwn (model X.prog X.w) X.A X.env X.xe) (hc : PTm X F0 H0 W c p) (hb : PSsm X F0 H0 W body m) : PSm X F0 H0 W (.While c body [] pos) (sWhile n junk p m) := by
  refine PS.imp (ps_while hp hc hb) fun D σ H ⟨F, ρ, r, h⟩ => ?_
  refine ⟨fun k σ H => ∃ F ρ, Rel X.K X.mg F0 H0 F σ H ρ ∧ OutOk X.K X.mg F0 H0 W D (whileD junk p m k ρ), ⟨n, F, fgs junk ρ, Rel.fgs junk r, h⟩, ?_⟩
  rintro k σ1 H1 ⟨F1, ρ1, r1, h1⟩
  cases k with
  | zero => exact False.elim h1
  | succ k =>
    unfold whileD at h1
    refine ⟨F1, ρ1, r1, (OutOk.got r1 h1).imp fun b k1 F2 H2 x => ?_⟩
    cases b with
    | true =>
      rw [if_pos rfl] at k1 ⊢
      refine ⟨fun σ H => ∃ F ρ, Rel X.K X.mg F0 H0 F σ H ρ ∧ OutOk X.K X.mg F0 H0 W D (whileD junk p m k ρ), fun σ' H' q => ⟨k, Nat.lt_succ_self k, q⟩, F2, ρ1, r1.ext x, ?_⟩
      cases zz : m ρ1 with
      | nx ρ5 => rw [zz] at k1; exact fun F σ H r => ⟨F, _, Rel.fgs junk r, k1⟩
      | ct ρ5 => rw [zz] at k1; exact fun F σ H r => ⟨F, _, Rel.fgs junk r, k1⟩
      | bk ρ5 => rw [zz] at k1; exact fun F σ H r => k1 F σ H (Rel.fgs junk r)
      | rt d => rw [zz] at k1; exact k1
      | rs c ρ5 => rw [zz] at k1; exact k1
      | no => rw [zz] at k1; exact k1
    | false =>
      rw [if_neg Bool.false_ne_true] at k1 ⊢
      exact k1 F2 σ1 H2 (r1.ext x)

/-! ### changes of what a slot alone holds -/
theorem Rel.lst {K : PySem.W.Frag} {mg : Str → Option Value} {F H : Hp} {σ : St} {ρ : Env} {i : Nat} {ds : List D} (r : Rel K mg F0 H0 F σ H ρ) (e : slAt ρ i = some (.own (.lst ds))) : ∃ a xs, σ[i]? = some (some (.ref a)) ∧ F a = none ∧ H a = some (.lst xs) ∧ DatL K mg F xs ds := by
  obtain ⟨v, hv, a, rfl, n, xs, ha, l⟩ := r.sl i _ (slAt_some e)
  exact ⟨a, xs, hv, n, ha, l⟩
/-- x.append(e) -/
def sApp (i : Nat) (m : EM) : SM := fun ρ => match slAt ρ i with
  | some (.own (.lst ds)) => (m ρ).out ρ fun d => if ds.length < lim then .nx (ρ.set i (some (.own (.lst (ds ++ [d]))))) else .no
  | _ => .no
theorem sm_append (i : Nat) {x : Str} {p1 p2 p3 p4 : Pos} (he : PEm X F0 H0 W e me) (hN : X.N[i]? = some x := by rfl) (hv : Vis X.env.scope x := by first | exact Or.inl rfl | exact Or.inr (Or.inl rfl) | exact Or.inr (Or.inr rfl)) (hd : (x == ("__debug__" : Str)) = false := by decide) (hcd : (x == ("__classdict__" : Str)) = false := by decide)
    (hbase : attributeBase (.Name x p1) "append" X.env (eval (.Name x p1) X.env) = eval (.Name x p1) X.env := by rfl)
    (hfew : ((backTo p3 (starEach [e] X.env)).all (fun x => !x.1) && (backToKw p3 (keywordEach [] X.env)).all (fun x => x.1.isSome) && decide (([e] : List Expr).length + ([] : List Keyword).length + (if ([] : List Keyword).isEmpty then 0 else 1) < 30)) = true := by rfl)
    (hline : (p2.endLine == p3.line) = true := by rfl) (hs : starEach [e] X.env = (false, eval e X.env) :: starEach [] X.env := by rfl) (hplain : (backTo p3 (starEach [] X.env)).any (·.1) = false := by rfl)
    (hsw : swapsWith (.Call (.Attribute (.Name x p1) "append" p2) [e] [] p3) none p4.line X.env = pure false := by rfl) :
    PSm X F0 H0 W (.Expr (.Call (.Attribute (.Name x p1) "append" p2) [e] [] p3) p4) (sApp i me) := by
  refine PS.imp (ps_expr (pe_bm PySem.F.plainAttrs_list PySem.F.slot_list_append PySem.F.type_list_append mt_append (pe_var hN hv hd hcd) (pa_cons he pa_nil hs) hbase hfew hline hs hplain) hsw) fun D σ H ⟨F, ρ, r, h⟩ => ?_
  unfold sApp at h
  split at h
  · rename_i ds e0
    obtain ⟨a, xs, hσ, n, ha, l⟩ := r.lst e0
    refine ⟨_, hσ, .inl ⟨rfl, xs, SqL.of ha⟩, F, ρ, r, (OutOk.got r h).imp fun d k F' H' v x q => ?_⟩
    by_cases hl : ds.length < lim
    · rw [if_pos hl] at k
      have ha' := x.hh _ _ ha
      refine ⟨a, xs, v, rfl, rfl, ha', lim_lt (by rw [l.len]; exact hl), ?_⟩
      refine k F' σ _ ((r.ext x).write (slAt_some e0) hσ ⟨_, upd_same, (l.mono x.ff).snoc q⟩)
    · rw [if_neg hl] at k; exact False.elim k
  · exact False.elim h
/-- x.extend(e) -/
def sExt (i : Nat) (m : EM) : SM := fun ρ => match slAt ρ i with
  | some (.own (.lst ds)) => (m ρ).out ρ fun d => match d with
    | .lst es => if ds.length + es.length ≤ lim then .nx (ρ.set i (some (.own (.lst (ds ++ es))))) else .no
    | _ => .no
  | _ => .no
theorem sm_extend (i : Nat) {x : Str} {p1 p2 p3 p4 : Pos} (he : PBm X F0 H0 W e me) (hN : X.N[i]? = some x := by rfl) (hv : Vis X.env.scope x := by first | exact Or.inl rfl | exact Or.inr (Or.inl rfl) | exact Or.inr (Or.inr rfl)) (hd : (x == ("__debug__" : Str)) = false := by decide) (hcd : (x == ("__classdict__" : Str)) = false := by decide)
    (hbase : attributeBase (.Name x p1) "extend" X.env (eval (.Name x p1) X.env) = eval (.Name x p1) X.env := by rfl)
    (hfew : ((backTo p3 (starEach [e] X.env)).all (fun x => !x.1) && (backToKw p3 (keywordEach [] X.env)).all (fun x => x.1.isSome) && decide (([e] : List Expr).length + ([] : List Keyword).length + (if ([] : List Keyword).isEmpty then 0 else 1) < 30)) = true := by rfl)
    (hline : (p2.endLine == p3.line) = true := by rfl) (hs : starEach [e] X.env = (false, eval e X.env) :: starEach [] X.env := by rfl) (hplain : (backTo p3 (starEach [] X.env)).any (·.1) = false := by rfl)
    (hsw : swapsWith (.Call (.Attribute (.Name x p1) "extend" p2) [e] [] p3) none p4.line X.env = pure false := by rfl) :
    PSm X F0 H0 W (.Expr (.Call (.Attribute (.Name x p1) "extend" p2) [e] [] p3) p4) (sExt i me) := by
  refine PS.imp (ps_expr (pe_bm PySem.F.plainAttrs_list PySem.F.slot_list_extend PySem.F.type_list_extend mt_extend (pe_var hN hv hd hcd) (pa_cons he pa_nil hs) hbase hfew hline hs hplain) hsw) fun D σ H ⟨F, ρ, r, h⟩ => ?_
  unfold sExt at h
  split at h
  · rename_i ds e0
    obtain ⟨a, xs, hσ, n, ha, l⟩ := r.lst e0
    refine ⟨_, hσ, .inl ⟨rfl, xs, SqL.of ha⟩, F, ρ, r, (OutOk.got r h).imp fun d k F' H' v x q => ?_⟩
    split at k
    · rename_i es
      by_cases hl : ds.length + es.length ≤ lim
      · rw [if_pos hl] at k
        have ha' := x.hh _ _ ha
        obtain ⟨b, zs, rfl, hb, lz⟩ := q.lst x.fh
        refine ⟨a, b, xs, zs, rfl, rfl, ha', hb, lim_line (by rw [l.len, lz.len]; exact hl), ?_⟩
        exact k F' σ _ ((r.ext x).write (slAt_some e0) hσ ⟨_, upd_same, (l.mono x.ff).app lz⟩)
      · rw [if_neg hl] at k; exact False.elim k
    · exact False.elim k
  · exact False.elim h
/-- x op= e, x data -/
def sAug (i : Nat) (g : D → D → Option D) (m : EM) : SM := fun ρ => match slAt ρ i with
  | some (.val x) => (m ρ).out ρ fun y => match g x y with
    | some z => .nx (ρ.set i (some (.val z)))
    | none => .no
  | _ => .no
def PIpM (X : Cx) (op : Operator) (g : D → D → Option D) : Prop := PIp X op (rM X.K X.mg g)
theorem ipm_add : PIpM X .Add D.sub → True := fun _ => trivial
def D.addI (x y : D) : Option D := match x, y with
  | .int i, .int j => some (.int (i + j))
  | _, _ => none
theorem ipm_addI : PIpM X .Add D.addI := by
  intro pins s σ H x y v u Q I rx ry h
  obtain ⟨F, dx, dy, d, fh, hx, hy, e, k⟩ := h
  unfold D.addI at e
  split at e
  · cases e
    exact ip_add pins s σ H _ _ v u Q I rx ry ⟨_, _, hx.int, hy.int, k F H _ (Ext.refl fh) (.int _)⟩
  · cases e
theorem ipm_subI : PIpM X .Sub D.sub := by
  intro pins s σ H x y v u Q I rx ry h
  obtain ⟨F, dx, dy, d, fh, hx, hy, e, k⟩ := h
  unfold D.sub at e
  split at e
  · cases e
    exact ip_sub pins s σ H _ _ v u Q I rx ry ⟨_, _, hx.int, hy.int, k F H _ (Ext.refl fh) (.int _)⟩
  · cases e
theorem sm_aug {i : Nat} {x : Str} {op : Operator} {g : D → D → Option D} {p1 : Pos} (hN : X.N.Nodup) (hi : X.N[i]? = some x) (hx : Loc X.env.scope x) (he : PBm X F0 H0 W e me) (ho : PIpM X op g) (hf : X.fn x = true ∨ X.env.scope.names.lookup x = some .local := by first | exact .inl rfl | exact .inr rfl | assumption) :
    PSm X F0 H0 W (.AugAssign (.Name x p1) op e pos) (sAug i g me) := by
  refine PS.imp (ps_aug hN hi hx he ho hf) fun D σ H ⟨F, ρ, r, h⟩ => ?_
  unfold sAug at h
  split at h
  · rename_i d0 e0
    obtain ⟨v, hv, q0⟩ := r.sl i _ (slAt_some e0)
    refine ⟨v, hv, F, ρ, r, (OutOk.got r h).imp fun d k F' H' w x q => ?_⟩
    cases z : g d0 d with
    | none => rw [z] at k; exact False.elim k
    | some z1 =>
      rw [z] at k
      exact ⟨F', d0, d, z1, x.fh, .inl (q0.mono x.ff), q, z, fun F2 H2 u x2 q2 => k F2 _ H2 (((r.ext x).ext x2).put i q2)⟩
  · exact False.elim h
end
end L2.Pv

set_option Elab.async false
set_option linter.all false
set_option maxRecDepth 100000
set_option maxHeartbeats 4000000
set_option autoImplicit false
/-! Defs; try; the law's end. -/
namespace L2.Pv
open PySem PySem.Spec PyProof.Rows

def startE (n : Nat) (ds : List D) : Env := ds.map (fun d => some (.val d)) ++ List.replicate (n - ds.length) none
/-- what a body comes to, called -/
def runM (n : Nat) (m : SM) (ds : List D) : R D := match m (startE n ds) with
  | .nx _ => .ok .non
  | .rt d => .ok d
  | .rs c _ => .ex c
  | _ => .no
theorem rel_start {K : PySem.W.Frag} {mg : Str → Option Value} {F H : Hp} {N : List Str} {vs : List V} {ds : List D} (fh : Same F H) (l : DatL K mg F vs ds) : Rel K mg F H F (start N vs) H (startE N.length ds) := by
  have own : ∀ (i : Nat) (s : Sl), (startE N.length ds)[i]? = some (some s) → ∃ d, s = .val d ∧ ds[i]? = some d := fun i s e => by
    unfold startE at e
    by_cases hi : i < ds.length
    · rw [List.getElem?_append_left (by simpa using hi), List.getElem?_map, List.getElem?_eq_getElem hi] at e
      cases e
      exact ⟨_, rfl, List.getElem?_eq_getElem hi⟩
    · rw [List.getElem?_append_right (by simpa using hi), List.getElem?_replicate] at e
      split at e <;> cases e
  refine ⟨fh, Same.refl F, Same.refl H, fun a o e n => (by rw [n] at e; cases e), ?_, fun i s e => ?_, fun i d a e _ => ?_, fun i j d e a _ h _ _ _ => ?_⟩
  · unfold startE start
    rw [List.length_append, List.length_append, List.length_map, List.length_map, List.length_replicate, List.length_replicate, l.len]
  · obtain ⟨d, rfl, hd⟩ := own i s e
    obtain ⟨v, hv, q⟩ := l.getD hd
    have hi : i < vs.length := (List.getElem?_eq_some_iff.mp hv).1
    refine ⟨v, ?_, q⟩
    unfold start
    rw [List.getElem?_append_left (by simpa using hi), List.getElem?_map, hv]
    rfl
  · obtain ⟨d', e', _⟩ := own i _ e; cases e'
  · obtain ⟨d', e', _⟩ := own i _ h; cases e'
section
variable {P : Program} {w : World} {K : PySem.W.Frag} {mg : Str → Option Value} {base : Heap}
/-- where a def's body runs -/
abbrev bodyX (P : Program) (w : World) (K : PySem.W.Frag) (mg : Str → Option Value) (base : Heap) (N : List Str) (qual : Str) (scope : Scope) (f : Addr) (cdv : Value) (A : Around) (outer : List PySem.Env) (s : Shared) (H : Hp) (E : XK) : Cx := cxOf (L2.CX P w) P w K mg base N qual scope f cdv A outer s H E
theorem fn_okF {x qual : Str} {params : Arguments} {body : List Stmt} {scope : Scope} {kws : List (Str × V)} {f : Addr} {fd : FuncData} {N ps : List Str} {n k : Nat} {m : SM} (F : FunD K x qual params body scope [] kws f fd) (S : FnScope N ps scope) (hn : ps.length = n)
    (h : ∀ (cdv : Value) (A : Around) (outer : List PySem.Env) (s : Shared) (H : Hp) (E : XK) (F0 : Hp), Room k (bodyX P w K mg base N qual scope f cdv A outer s H E).A → Takes (bodyX P w K mg base N qual scope f cdv A outer s H E) (fun cls d _ H => E cls d H) →
      PassesOwn (model P w) (bodyX P w K mg base N qual scope f cdv A outer s H E).A (bodyX P w K mg base N qual scope f cdv A outer s H E).env (bodyX P w K mg base N qual scope f cdv A outer s H E).xe → PSsm (bodyX P w K mg base N qual scope f cdv A outer s H E) F0 H (fun cls d _ H => E cls d H) body m) :
    FnOk P w K mg base (L2.CX P w) (k + 1) f fd ps (spM K mg n (runM N.length m)) := by
  refine F.ok S (fun vs H Q E ⟨F, ds, _, l, e, _⟩ => by rw [l.len, e, hn]) fun cdv A outer s H vs Q E hr ⟨F0, ds, fh, l, e, q⟩ => ?_
  refine ⟨_, h cdv A outer s H E F0 hr (takes_of rfl rfl rfl rfl) (passes_of rfl), F0, startE N.length ds, rel_start fh l, ?_⟩
  unfold runM at q
  cases z : m (startE N.length ds) with
  | nx ρ => rw [z] at q; exact fun F1 σ H1 r => q F1 H1 _ r.toExt .non
  | rt d => rw [z] at q; exact q
  | rs c ρ => rw [z] at q; exact fun F1 σ H1 C r e => q F1 H1 C r.toExt e
  | bk ρ => rw [z] at q; exact False.elim q
  | ct ρ => rw [z] at q; exact False.elim q
  | no => rw [z] at q; exact q
/-- THE RULE for a def -/
theorem fn_mk {x qual : Str} {params : Arguments} {body : List Stmt} {scope : Scope} {kws : List (Str × V)} {f : Addr} {fd : FuncData} {N ps : List Str} {n k : Nat} {m : SM} (F : FunD K x qual params body scope [] kws f fd) (hm : mg x = some (.ref f)) (S : FnScope N ps scope) (hn : ps.length = n)
    (hb : ∀ (kV doc pm : Value) (an : Option Addr) (cdv ct : Value) (us : List Value), us.length = ps.length → bindArgs (PySem.W.fnOf x qual params body scope .none kV doc pm an cdv ct) ⟨us, []⟩ = pure (ps.zip us))
    (h : ∀ (cdv : Value) (A : Around) (outer : List PySem.Env) (s : Shared) (H : Hp) (E : XK) (F0 : Hp), Room k (bodyX P w K mg base N qual scope f cdv A outer s H E).A → Takes (bodyX P w K mg base N qual scope f cdv A outer s H E) (fun cls d _ H => E cls d H) →
      PassesOwn (model P w) (bodyX P w K mg base N qual scope f cdv A outer s H E).A (bodyX P w K mg base N qual scope f cdv A outer s H E).env (bodyX P w K mg base N qual scope f cdv A outer s H E).xe → PSsm (bodyX P w K mg base N qual scope f cdv A outer s H E) F0 H (fun cls d _ H => E cls d H) body m) :
    Fn K mg P w base x n (k + 1) (runM N.length m) := ⟨f, fd, ps, hn, hm, F.kp, F.bindsN hb, fn_okF F S hn h⟩
end

/-! ### try -/
section
variable {X : Cx} {F0 H0 : Hp} {W : WX} {m n : SM} {pos : Pos}
def Out.noRs : Out → Out
  | .rs _ _ => .no
  | o => o
/-- the clauses: the class that each names, its suite; sub: what a clause takes -/
def handM (sub : Str → Str → Bool) (c : Str) : List (Str × SM) → SM
  | [], ρ => .rs c ρ
  | (h, m) :: r, ρ => if sub c h then (m ρ).noRs else handM sub c r ρ
def sTry (cs : List Str) (sub : Str → Str → Bool) (mb : SM) (hs : List (Str × SM)) : SM := fun ρ => match mb ρ with
  | .rs c ρ1 => if cs.contains c then handM sub c hs ρ1 else .no
  | o => o
/-- what the classes are to one another, all names that may be raised -/
def SubOk (K : PySem.W.Frag) (mg : Str → Option Value) (sub : Str → Str → Bool) (cs : List Str) : Prop := ∀ c h C D, c ∈ cs → h ∈ cs → mg c = some (Value.ref C) → mg h = some (Value.ref D) → PySem.W.exmOne K (.ref C) (.ref D) = some (sub c h)
inductive Hds (X : Cx) (F0 H0 : Hp) (cs : List Str) : List ExceptHandler → List (Str × SM) → Prop
  | nil : Hds X F0 H0 cs [] []
  | cons {x : Str} {C : Addr} {b₀ : Stmt} {suite : List Stmt} {np p2 : Pos} {m : SM} {hds : List ExceptHandler} {l : List (Str × SM)} (hg : Gl X x) (hd : (x == ("__debug__" : Str)) = false) (hm : X.mg x = some (.ref C)) (hx : x ∈ cs)
      (hsu : ∀ (a : Addr) (pn : List (Addr × Obj)), PSsm (X.suite a pn) F0 H0 W0 (b₀ :: suite) m) (r : Hds X F0 H0 cs hds l) : Hds X F0 H0 cs (.ExceptHandler (some (.Name x np)) none (b₀ :: suite) p2 :: hds) ((x, m) :: l)
theorem sm_try {body : List Stmt} {h₀ : ExceptHandler} {hds : List ExceptHandler} {l : List (Str × SM)} {sub : Str → Str → Bool} {cs : List Str} (hs : X.stack = X.env :: X.outer) (hf : X.env.frame = some X.env.locals) (tk : Takes X W) (sb : SubOk X.K X.mg sub cs)
    (hb : ∀ (W' : WX) (pn : List (Addr × Obj)) (xe : Value → Shared → Prop), Takes (X.tr pn xe) W' → PassesOwn (model X.prog X.w) X.A X.env xe → PSsm (X.tr pn xe) F0 H0 W' body m)
    (hh : Hds X F0 H0 cs (h₀ :: hds) l) : PSm X F0 H0 W (.Try body (h₀ :: hds) [] [] pos) (sTry cs sub m l) := by
  have key : ∀ (hd : List ExceptHandler) (l : List (Str × SM)), Hds X F0 H0 cs hd l → ∃ l', HdsOk X hd l' ∧ ∀ (D : Ends) (c : Str) (ρ : Env) (C : Addr) (F : Hp) (σ : St) (H : Hp), c ∈ cs → X.mg c = some (.ref C) → Rel X.K X.mg F0 H0 F σ H ρ → OutOk X.K X.mg F0 H0 W D (handM sub c l ρ) → wMany X.K W D l' (.ref C) none σ H := by
    intro hd l h
    induction h with
    | nil => exact ⟨[], .nil, fun D c ρ C F σ H hc e r q => q F σ H C r e⟩
    | @cons x C' b₀ suite np p2 m hds l hg hd hm hx hsu r ih =>
      obtain ⟨l', hl, k⟩ := ih
      refine ⟨(.ref C', fun _ _ _ => tSm X.K X.mg F0 H0 W0 m) :: l', .cons ⟨hg, hd, .inl hm⟩ (fun a oe cls d pn _ _ => hsu a _) hl, fun D c ρ C F σ H hc e r q => ?_⟩
      refine ⟨sub c x, sb c x C C' hc hx e hm, fun z a _ => ?_, fun z => ?_⟩
      · refine ⟨F, ρ, r, ?_⟩
        unfold handM at q
        rw [if_pos z] at q
        cases o : m ρ with
        | nx ρ => rw [o] at q; exact q
        | rt ρ => rw [o] at q; exact q
        | bk ρ => rw [o] at q; exact q
        | ct ρ => rw [o] at q; exact q
        | rs c ρ => rw [o] at q; exact False.elim q
        | no => rw [o] at q; exact q
      · unfold handM at q
        rw [if_neg (by rw [z]; exact Bool.false_ne_true)] at q
        exact k D c ρ C F σ H hc e r q
  obtain ⟨l', hl, k⟩ := key _ _ hh
  refine PS.imp (ps_try_many hs hf tk (tb := fun W' => tSm X.K X.mg F0 H0 W' m) hb hl) fun D σ H ⟨F, ρ, r, q⟩ => ⟨F, ρ, r, ?_⟩
  unfold sTry at q
  cases o : m ρ with
  | nx ρ => rw [o] at q; exact q
  | rt ρ => rw [o] at q; exact q
  | bk ρ => rw [o] at q; exact q
  | ct ρ => rw [o] at q; exact q
  | rs c ρ1 =>
    rw [o] at q
    dsimp only at q
    by_cases hc : cs.contains c = true
    · rw [if_pos hc] at q
      exact fun F1 σ1 H1 C r1 e => k D c ρ1 C F1 σ1 H1 (List.contains_iff_mem.mp hc) e r1 q
    · rw [if_neg hc] at q
      exact False.elim q
  | no => rw [o] at q; exact q
end
end L2.Pv

set_option Elab.async false
set_option linter.all false
set_option maxRecDepth 100000
set_option maxHeartbeats 4000000
set_option autoImplicit false
/-! Dicts; stores. -/
namespace L2.Pv
open PySem PySem.Spec PyProof.Rows

theorem hu65 {k : Nat} {A : Around} (h : Room k A) : A.units + 65 < cLine := by have := h.un; omega
theorem hu1 {k : Nat} {A : Around} (h : Room k A) : A.units + 1 < cLine := by have := h.un; omega
/-- k: v, in its place or at the end -/
def D.put (ps : List (D × D)) (k v : D) : List (D × D) := if ps.any (fun p => p.1.same k) then ps.map (fun p => if p.1.same k then (p.1, v) else p) else ps ++ [(k, v)]
def D.drop (ps : List (D × D)) (k : D) : List (D × D) := ps.filter fun p => !p.1.same k
section
variable {K : PySem.W.Frag} {mg : Str → Option Value} {F : Hp}
theorem DatK.any {k : D} {j : Key} (h : D.key k = some j) : ∀ {kvs : List (Key × V)} {ps : List (D × D)}, DatK K mg F kvs ps → (ps.any fun p => p.1.same k) = kvs.any fun kv => decide (kv.1 = j)
  | _, _, .nil => rfl
  | _, _, .cons (k := k') _ l => by rw [List.any_cons, List.any_cons, DatK.any h l, keyD_same k' h]
theorem DatK.app : ∀ {k1 k2 : List (Key × V)} {p1 p2 : List (D × D)}, DatK K mg F k1 p1 → DatK K mg F k2 p2 → DatK K mg F (k1 ++ k2) (p1 ++ p2)
  | _, _, _, _, .nil, m => m
  | _, _, _, _, .cons h l, m => .cons h (l.app m)
theorem DatK.repl {k d : D} {j : Key} {v : V} (h : D.key k = some j) (hv : Dat K mg F v d) : ∀ {kvs : List (Key × V)} {ps : List (D × D)}, DatK K mg F kvs ps → DatK K mg F (kvs.map fun kv => if kv.1 = j then (kv.1, v) else kv) (ps.map fun p => if p.1.same k then (p.1, d) else p)
  | _, _, .nil => .nil
  | _, _, .cons (k := k') hv' l => by
    rw [List.map_cons, List.map_cons, keyD_same k' h]
    by_cases e : k' = j
    · rw [if_pos e, if_pos (decide_eq_true e)]
      exact .cons hv (DatK.repl h hv l)
    · rw [if_neg e, if_neg (by rw [decide_eq_false e]; exact Bool.false_ne_true)]
      exact .cons hv' (DatK.repl h hv l)
theorem key_back {k : D} {j : Key} (h : D.key k = some j) : k = keyD j := by
  cases k with
  | int i => cases h; rfl
  | str i => cases h; rfl
  | _ => cases h
theorem DatK.put {kvs : List (Key × V)} {ps : List (D × D)} {k d : D} {j : Key} {v : V} (l : DatK K mg F kvs ps) (h : D.key k = some j) (hv : Dat K mg F v d) : DatK K mg F (putK kvs j v) (D.put ps k d) := by
  unfold putK D.put
  rw [l.any h]
  by_cases e : (kvs.any fun kv => decide (kv.1 = j)) = true
  · rw [if_pos e, if_pos e]; exact l.repl h hv
  · rw [if_neg e, if_neg e, key_back h]; exact l.app (.cons hv .nil)
theorem DatK.drop {k : D} {j : Key} (h : D.key k = some j) : ∀ {kvs : List (Key × V)} {ps : List (D × D)}, DatK K mg F kvs ps → DatK K mg F (dropK kvs j) (D.drop ps k)
  | _, _, .nil => .nil
  | _, _, .cons (k := k') hv l => by
    unfold dropK D.drop
    rw [List.filter_cons, List.filter_cons, keyD_same k' h]
    by_cases e : k' = j
    · rw [if_neg (by simp [e]), if_neg (by simp [e])]
      exact DatK.drop h l
    · rw [if_pos (by simp [e]), if_pos (by simp [e])]
      exact .cons hv (DatK.drop h l)
theorem DatT.any {k : List D} {j : List Key} (h : D.keys k = some j) : ∀ {kvs : List (List Key × V)} {ps : List (D × D)}, DatT K mg F kvs ps → (ps.any fun p => p.1.same (.tup k)) = kvs.any fun kv => decide (kv.1 = j)
  | _, _, .nil => rfl
  | _, _, .cons (k := k') _ l => by rw [List.any_cons, List.any_cons, DatT.any h l, keyD_sameT k' h]
theorem DatT.app : ∀ {k1 k2 : List (List Key × V)} {p1 p2 : List (D × D)}, DatT K mg F k1 p1 → DatT K mg F k2 p2 → DatT K mg F (k1 ++ k2) (p1 ++ p2)
  | _, _, _, _, .nil, m => m
  | _, _, _, _, .cons h l, m => .cons h (l.app m)
theorem DatT.repl {k : List D} {d : D} {j : List Key} {v : V} (h : D.keys k = some j) (hv : Dat K mg F v d) : ∀ {kvs : List (List Key × V)} {ps : List (D × D)}, DatT K mg F kvs ps → DatT K mg F (kvs.map fun kv => if kv.1 = j then (kv.1, v) else kv) (ps.map fun p => if p.1.same (.tup k) then (p.1, d) else p)
  | _, _, .nil => .nil
  | _, _, .cons (k := k') hv' l => by
    rw [List.map_cons, List.map_cons, keyD_sameT k' h]
    by_cases e : k' = j
    · rw [if_pos e, if_pos (decide_eq_true e)]
      exact .cons hv (DatT.repl h hv l)
    · rw [if_neg e, if_neg (by rw [decide_eq_false e]; exact Bool.false_ne_true)]
      exact .cons hv' (DatT.repl h hv l)
theorem keys_back : ∀ {k : List D} {j : List Key}, D.keys k = some j → k = j.map keyD
  | [], _, h => by cases h; rfl
  | d :: ds, _, h => by
    unfold D.keys at h
    split at h
    · rename_i k ks h1 h2
      cases h
      rw [key_back h1, keys_back h2]
      rfl
    · cases h
theorem DatT.put {kvs : List (List Key × V)} {ps : List (D × D)} {k : List D} {d : D} {j : List Key} {v : V} (l : DatT K mg F kvs ps) (h : D.keys k = some j) (hv : Dat K mg F v d) : DatT K mg F (putK kvs j v) (D.put ps (.tup k) d) := by
  unfold putK D.put
  rw [l.any h]
  by_cases e : (kvs.any fun kv => decide (kv.1 = j)) = true
  · rw [if_pos e, if_pos e]; exact l.repl h hv
  · rw [if_neg e, if_neg e, keys_back h]; exact l.app (.cons hv .nil)
end

section
variable {X : Cx} {F0 H0 : Hp} {W : WX} {e a b c : Expr} {me ma mb mc : EM} {pos : Pos}
/-! ### displays -/
theorem fm_dnil : PFm X F0 H0 W (.Dict [] [] pos) (eK (.dct false [])) := PE.imp pe_dnewK fun σ H Q ⟨F, ρ, r, g⟩ => fun p n =>
  g F _ p ⟨Same.refl F, r.fh.trans (same_upd n), same_upd n, fun a o e n => (by rw [n] at e; cases e)⟩ (r.fh.free n) n ⟨[], upd_same, .nil⟩
theorem fm_dnilT : PFm X F0 H0 W (.Dict [] [] pos) (eK (.dct true [])) := PE.imp pe_dnewT fun σ H Q ⟨F, ρ, r, g⟩ => fun p n =>
  g F _ p ⟨Same.refl F, r.fh.trans (same_upd n), same_upd n, fun a o e n => (by rw [n] at e; cases e)⟩ (r.fh.free n) n ⟨[], upd_same, .nil⟩
def pairsM : List (EM × EM) → Env → R (List (D × D))
  | [], _ => .ok []
  | (k, v) :: r, ρ => (k ρ).bind fun x => (v ρ).bind fun y => (pairsM r ρ).bind fun ps => if D.keyOk false x then .ok ((x, y) :: ps) else .no
def mergeD (ps : List (D × D)) : List (D × D) := ps.foldl (fun acc p => D.put acc p.1 p.2) []
def eDisp (ps : List (EM × EM)) : EM := fun ρ => (pairsM ps ρ).bind fun ps => .ok (.dct false (mergeD ps))
inductive PPm (X : Cx) (F0 H0 : Hp) (W : WX) : List (Option Expr) → List Expr → List (EM × EM) → Prop
  | nil : PPm X F0 H0 W [] [] []
  | cons {k v : Expr} {ks : List (Option Expr)} {vs : List Expr} {mk mv : EM} {ms : List (EM × EM)} : PEm X F0 H0 W k mk → PEm X F0 H0 W v mv → PPm X F0 H0 W ks vs ms → PPm X F0 H0 W (some k :: ks) (v :: vs) ((mk, mv) :: ms)
theorem key_ex {x : D} (h : D.keyOk false x = true) : ∃ j, D.key x = some j := by
  cases x with
  | int i => exact ⟨_, rfl⟩
  | str i => exact ⟨_, rfl⟩
  | _ => cases h
theorem PPm.run {ks : List (Option Expr)} {vs : List Expr} {ms : List (EM × EM)} (h : PPm X F0 H0 W ks vs ms) : ∃ trs, PPs X pos ks vs trs ∧ ks.all (·.isSome) = true ∧ ks.length = vs.length ∧ ks.length = ms.length ∧ ∀ (σ : St) (H : Hp) (Q : List (V × V) → Hp → Prop) (F : Hp) (ρ : Env), Rel X.K X.mg F0 H0 F σ H ρ →
    Got X.mg W F H σ (pairsM ms ρ) (fun ps => ∀ F' H' kvs, Ext F H F' H' → kvs.length = ms.length → DatK X.K X.mg F' kvs ps → Q (kvs.map fun kv => (kV kv.1, kv.2)) H') → tPairs trs σ H Q := by
  induction h with
  | nil => exact ⟨[], pps_nil, rfl, rfl, rfl, fun σ H Q F ρ r g => g F H [] (Ext.refl r.fh) rfl .nil⟩
  | @cons k v ks vs mk mv ms hk hv r ih =>
    obtain ⟨trs, hp, h1, h2, h3, ht⟩ := ih
    refine ⟨_, pps_cons hk hv hp, by rw [List.all_cons, h1]; rfl, congrArg (· + 1) h2, congrArg (· + 1) h3, fun σ H Q F ρ r g => ?_⟩
    refine ⟨F, ρ, r, Got.imp (Got.bind (show Got X.mg W F H σ ((mk ρ).bind fun x => (mv ρ).bind fun y => (pairsM ms ρ).bind fun ps => if D.keyOk false x then .ok ((x, y) :: ps) else .no) _ from g)) fun x k1 F1 H1 u x1 d1 => ?_⟩
    refine ⟨F1, ρ, r.ext x1, ((k1.move x1).bind).imp fun y k2 F2 H2 w x2 d2 => ?_⟩
    refine ht σ H2 _ F2 ρ ((r.ext x1).ext x2) (((k2.move x2).bind).imp fun ps k3 F3 H3 kvs x3 hl l => ?_)
    by_cases hc : D.keyOk false x = true
    · rw [if_pos hc] at k3
      obtain ⟨j, hj⟩ := key_ex hc
      have z := k3 F3 H3 ((j, w) :: kvs) (x1.trans (x2.trans x3)) (congrArg (· + 1) hl) (by rw [key_back hj]; exact .cons (d2.mono x3.ff) l)
      rw [List.map_cons, ← key_V (H := H1) (.inl d1) hj] at z
      exact z
    · rw [if_neg hc] at k3; exact False.elim k3
theorem merge_dat {K : PySem.W.Frag} {mg : Str → Option Value} {F : Hp} : ∀ {kvs : List (Key × V)} {ps : List (D × D)} {acc : List (Key × V)} {ad : List (D × D)}, DatK K mg F kvs ps → DatK K mg F acc ad → DatK K mg F (mergeK acc kvs) (ps.foldl (fun acc p => D.put acc p.1 p.2) ad)
  | _, _, _, _, .nil, m => m
  | (k, v) :: vs, _, acc, ad, .cons (d := d) (ds := ds) hv l, m => by
    show DatK K mg F (mergeK (putK acc k v) vs) (ds.foldl (fun acc p => D.put acc p.1 p.2) (D.put ad (keyD k) d))
    exact merge_dat l (m.put (D.key_keyD k) hv)
theorem fm_disp {ks : List (Option Expr)} {vs : List Expr} {ms : List (EM × EM)} (h : PPm X F0 H0 W ks vs ms) (h0 : ks ≠ [] := by exact fun z => nomatch z) (h15 : ms.length ≤ 15 := by decide) : PFm X F0 H0 W (.Dict ks vs pos) (eDisp ms) := by
  obtain ⟨trs, hp, h1, h2, h3, ht⟩ := h.run (pos := pos)
  refine PE.imp (pe_disp hp h1 h2 h0 (by rw [h3]; exact h15)) fun σ H Q ⟨F, ρ, r, g⟩ => fun p n => ?_
  have x0 : Ext F H F (upd H p (.dK [])) := ⟨Same.refl F, r.fh.trans (same_upd n), same_upd n, fun a o e n => (by rw [n] at e; cases e)⟩
  refine ht σ _ _ F ρ (r.ext x0) ((g.bind.move x0).imp fun ps k F' H' kvs x hl l => ?_)
  have hp' := x.hh p _ upd_same
  have n' : F' p = none := x.own (r.fh.free n) upd_same trivial
  refine ⟨hp', kvs, rfl, by rw [hl]; exact h15, ?_⟩
  refine k F' _ p ⟨x.ff, fun c w hc => by rw [upd_ne (ne_of_none hc n')]; exact x.fh c w hc, fun c w hc => by rw [upd_ne (ne_of_none hc n)]; exact (x0.trans x).hh c w hc, (x0.trans x).nw⟩ n' n ⟨_, upd_same, merge_dat l .nil⟩

/-! ### d.get -/
def eGet1 (ma mb : EM) : EM := fun ρ => (ma ρ).bind fun d => match d with
  | .dct t ps => (mb ρ).bind fun k => if D.keyOk t k then .ok ((D.find k ps).getD .non) else .no
  | _ => .no
def eGet2 (ma mb mc : EM) : EM := fun ρ => (ma ρ).bind fun d => match d with
  | .dct t ps => (mb ρ).bind fun k => (mc ρ).bind fun x => if D.keyOk t k then .ok ((D.find k ps).getD x) else .no
  | _ => .no
theorem DatB.isD {K : PySem.W.Frag} {mg : Str → Option Value} {F H : Hp} {v : V} {t : Bool} {ps : List (D × D)} (fh : Same F H) (b : DatB K mg F H v (.dct t ps)) : ∃ a, v = .ref a ∧ IsD H a := by
  cases t with
  | false => obtain ⟨a, kvs, e, r, _⟩ := b.dctK fh; exact ⟨a, e, .inl ⟨kvs, r⟩⟩
  | true => obtain ⟨a, kvs, e, r, _⟩ := b.dctT fh; exact ⟨a, e, .inr ⟨kvs, r⟩⟩
theorem em_get1 {p2 p3 : Pos} (hu : X.A.units + 1 < cLine) (ha : PBm X F0 H0 W a ma) (hb : PBm X F0 H0 W b mb) (m : M1 X a "get" p2 b p3) : PEm X F0 H0 W (.Call (.Attribute a "get" p2) [b] [] p3) (eGet1 ma mb) := by
  refine PE.imp (pe_dget1 hu ha hb m) fun σ H Q ⟨F, ρ, r, g⟩ => ?_
  refine ⟨F, ρ, r, g.bind.imp fun d k F1 H1 v x1 d1 => ?_⟩
  split at k
  · rename_i t ps
    obtain ⟨a, e, hd⟩ := d1.isD x1.fh
    refine ⟨a, e, hd, F1, ρ, r.ext x1, ((k : Got _ _ _ _ _ _ _).move x1).bind.imp fun y k2 F2 H2 w x2 d2 => ?_⟩
    by_cases hc : D.keyOk t y = true
    · rw [if_pos hc] at k2
      have z : ∀ F' H' v, Ext F H F' H' → Dat X.K X.mg F' v ((D.find y ps).getD .non) → Q v H' := k2
      obtain ⟨a', e', h⟩ := (d1.ext x2).get x2.fh d2 hc
      rw [e] at e'; cases e'
      rcases h with ⟨g, ef⟩ | ⟨u, d', g, ef, du⟩
      · rw [ef] at z; exact ⟨none, g, z F2 H2 _ (x1.trans x2) .non⟩
      · rw [ef] at z; exact ⟨some u, g, z F2 H2 _ (x1.trans x2) du⟩
    · rw [if_neg hc] at k2; exact False.elim k2
  · exact False.elim k
theorem em_get2 {p2 p3 : Pos} (hu : X.A.units + 1 < cLine) (ha : PBm X F0 H0 W a ma) (hb : PBm X F0 H0 W b mb) (hc : PEm X F0 H0 W c mc) (m : M2 X a "get" p2 b c p3) : PEm X F0 H0 W (.Call (.Attribute a "get" p2) [b, c] [] p3) (eGet2 ma mb mc) := by
  refine PE.imp (pe_dget2 hu ha hb hc m) fun σ H Q ⟨F, ρ, r, g⟩ => ?_
  refine ⟨F, ρ, r, g.bind.imp fun d k F1 H1 v x1 d1 => ?_⟩
  split at k
  · rename_i t ps
    obtain ⟨a, e, hd⟩ := d1.isD x1.fh
    refine ⟨a, e, hd, F1, ρ, r.ext x1, ((k : Got _ _ _ _ _ _ _).move x1).bind.imp fun y k2 F2 H2 w x2 d2 => ?_⟩
    refine ⟨F2, ρ, (r.ext x1).ext x2, (k2.move x2).bind.imp fun dx k3 F3 H3 wx x3 d3 => ?_⟩
    by_cases hc : D.keyOk t y = true
    · rw [if_pos hc] at k3
      have z : ∀ F' H' v, Ext F H F' H' → Dat X.K X.mg F' v ((D.find y ps).getD dx) → Q v H' := k3
      obtain ⟨a', e', h⟩ := (d1.ext (x2.trans x3)).get x3.fh (d2.ext x3) hc
      rw [e] at e'; cases e'
      rcases h with ⟨g, ef⟩ | ⟨u, d', g, ef, du⟩
      · rw [ef] at z; exact ⟨none, g, z F3 H3 _ (x1.trans (x2.trans x3)) d3⟩
      · rw [ef] at z; exact ⟨some u, g, z F3 H3 _ (x1.trans (x2.trans x3)) du⟩
    · rw [if_neg hc] at k3; exact False.elim k3
  · exact False.elim k

/-! ### x[k] = e, x held alone -/
def D.setAt (o k v : D) : Option D := match o with
  | .lst ds => match k with
    | .int i => (ixN ds.length i).map fun j => .lst (ds.set j v)
    | _ => none
  | .dct t ps => if D.keyOk t k && decide (ps.length < lim) then some (.dct t (D.put ps k v)) else none
  | _ => none
def sSub (i : Nat) (mk mv : EM) : SM := fun ρ => (mv ρ).out ρ fun v => match slAt ρ i with
  | some (.own o) => (mk ρ).out ρ fun k => match D.setAt o k v with
    | some o' => .nx (ρ.set i (some (.own o')))
    | none => .no
  | _ => .no
/-- o[k] = v by data: what o holds alone -/
def rSetM (K : PySem.W.Frag) (mg : Str → Option Value) : TSet := fun o k v H Q => ∃ F a od kd vd od', o = .ref a ∧ Same F H ∧ F a = none ∧ OwnAt K mg F H a od ∧ DatB K mg F H k kd ∧ Dat K mg F v vd ∧ D.setAt od kd vd = some od' ∧ ∀ u, OwnAt K mg F (upd H a u) a od' → Q (upd H a u)
theorem set_any (hu : X.A.units + 65 < cLine) : PSet X (rSetM X.K X.mg) := by
  intro pins s σ H o i v ov iv u Q I ro ri rv h
  obtain ⟨F, a, od, kd, vd, od', rfl, fh, n, oo, hk, hv, e, k⟩ := h
  cases od with
  | lst ds =>
    obtain ⟨xs, hx, l⟩ := oo
    cases kd with
    | int j =>
      have e1 : (ixN ds.length j).map (fun j => D.lst (ds.set j vd)) = some od' := e
      cases q : ixN ds.length j with
      | none => rw [q] at e1; cases e1
      | some m =>
        rw [q] at e1; cases e1
        exact set_list pins s σ H _ _ v ov iv u Q I ro ri rv ⟨a, xs, j, m, rfl, hk.int, hx, by rw [l.len]; exact q, k _ ⟨_, upd_same, l.set m hv⟩⟩
    | _ => cases e
  | dct t ps =>
    have e1 : (if D.keyOk t kd && decide (ps.length < lim) then some (D.dct t (D.put ps kd vd)) else none) = some od' := e
    split at e1
    · rename_i hc
      cases e1
      obtain ⟨c1, c2⟩ := Bool.and_eq_true_iff.mp hc
      cases ro
      cases t with
      | false =>
        obtain ⟨kvs, hx, l⟩ := oo
        obtain ⟨j, hj⟩ := key_ex c1
        have ek := key_V hk hj
        subst ek
        exact d_setItem (by omega) I (DPut.k hx (lim_lt (by rw [l.len]; exact of_decide_eq_true c2))) ri rv fun s' I' => ⟨_, I', k _ ⟨_, upd_same, l.put hj hv⟩⟩
      | true =>
        obtain ⟨kvs, hx, l⟩ := oo
        cases kd with
        | tup ks =>
          obtain ⟨j, hj⟩ : ∃ j, D.keys ks = some j := Option.isSome_iff_exists.mp c1
          obtain ⟨b, ys, rfl, _, hb, l2⟩ := hk.tup fh
          have e2 := keys_V l2 hj
          subst e2
          exact d_setItem (by omega) I (DPut.t hx hb (lim_lt (by rw [l.len]; exact of_decide_eq_true c2))) ri rv fun s' I' => ⟨_, I', k _ ⟨_, upd_same, l.put hj hv⟩⟩
        | _ => cases c1
    · cases e1
  | _ => cases e
theorem sm_sub {i : Nat} {x : Str} {p1 p2 : Pos} (hu : X.A.units + 65 < cLine) (he : PEm X F0 H0 W e me) (hb : PBm X F0 H0 W b mb) (hN : X.N[i]? = some x := by rfl) (hv : Vis X.env.scope x := by first | exact Or.inl rfl | exact Or.inr (Or.inl rfl) | exact Or.inr (Or.inr rfl)) (hd : (x == ("__debug__" : Str)) = false := by decide) (hcd : (x == ("__classdict__" : Str)) = false := by decide)
    (ha : ∀ v, assign (.Subscript (.Name x p1) b p2) X.env v = (do
      let ov ← holding [v] (eval (.Name x p1) X.env)
      let iv ← holding [v, ov] (eval b X.env)
      standAt p2
      holding [v, ov, iv] (setItem ov iv v)
      release [v, ov, iv] []) := by intro _; rfl)
    (hs : swapsWithSole [.Subscript (.Name x p1) b p2] e pos.line X.env = pure false := by rfl) (hw : swappedStores [.Subscript (.Name x p1) b p2] e X.env = pure none := by rfl)
    (h1 : (assignEach [.Subscript (.Name x p1) b p2] X.env).map (·.2) = [assign (.Subscript (.Name x p1) b p2) X.env] := by rfl) : PSm X F0 H0 W (.Assign [.Subscript (.Name x p1) b p2] e pos) (sSub i mb me) := by
  refine PS.imp (ps_asg he (pg_sub (pe_var hN hv hd hcd) hb (set_any hu) ha) hs hw h1) fun En σ H ⟨F, ρ, r, h⟩ => ⟨F, ρ, r, (OutOk.got r h).imp fun d k F1 H1 v x1 d1 => ?_⟩
  split at k
  · rename_i od e0
    obtain ⟨ov, hσ, a, rfl, n, oo⟩ := r.sl i _ (slAt_some e0)
    refine ⟨_, hσ, F1, ρ, r.ext x1, (OutOk.got (r.ext x1) k).imp fun kd k2 F2 H2 w x2 d2 => ?_⟩
    cases z : D.setAt od kd d with
    | none => rw [z] at k2; exact False.elim k2
    | some o' =>
      rw [z] at k2
      obtain ⟨ov', hσ', a', ea, n', oo'⟩ := ((r.ext x1).ext x2).sl i _ (slAt_some e0)
      rw [hσ] at hσ'; cases hσ'; cases ea
      exact ⟨F2, a, od, kd, d, o', rfl, x2.fh, n', oo', d2, d1.mono x2.ff, z, fun u o => k2 F2 σ _ (((r.ext x1).ext x2).write (slAt_some e0) hσ o)⟩
  · exact False.elim k
end
end L2.Pv

set_option Elab.async false
set_option linter.all false
set_option maxRecDepth 100000
set_option maxHeartbeats 4000000
set_option autoImplicit false
/-! More rules. -/
namespace L2.Pv
open PySem PySem.Spec PyProof.Rows

/-! ### the module's constants and classes -/
/-- the module's name x is a tuple of these -/
def GTup (K : PySem.W.Frag) (mg : Str → Option Value) (x : Str) (ds : List D) : Prop := ∃ a xs, mg x = some (.ref a) ∧ (∀ H, SqT K H a xs) ∧ ∀ F, DatL K mg F xs ds
/-- .. an exception's class of the program -/
structure ExF (K : PySem.W.Frag) (mg : Str → Option Value) (x : Str) : Prop where
  gC : mg x = some (.ref (He.ga K x))
  ex : PySem.W.excIn K (He.ga K x) He.veBase "ValueError.__new__" = true
  kp : PySem.W.keepIn K (.ref (He.ga K x)) = true
  sb : PySem.W.subIn K (.ref (He.ga K x)) (.type "BaseException") = some true
  ty : PySem.W.typeIn K (.ref (He.ga K x)) = some (.type "type")
theorem kit_all {K : PySem.W.Frag} {U : String} (h : (["NoneType", "bool", "int", "str", "tuple", "list"].all fun T => decide (kitB T U = some (isTy T U))) = true) : KitOk K U := fun T hT => kit_ty (of_decide_eq_true (List.all_eq_true.mp h T hT))
theorem kit_int {K : PySem.W.Frag} : KitOk K "int" := kit_all (by decide +kernel)
theorem kit_bool {K : PySem.W.Frag} : KitOk K "bool" := kit_all (by decide +kernel)
theorem kit_str {K : PySem.W.Frag} : KitOk K "str" := kit_all (by decide +kernel)
theorem kit_tuple {K : PySem.W.Frag} : KitOk K "tuple" := kit_all (by decide +kernel)
section
variable {X : Cx} {F0 H0 : Hp} {W : WX} {e a b c tg : Expr} {m ma mb mc : EM} {es : List Expr} {ms : List EM} {pos : Pos}
theorem em_gint {x : Str} {i : Int} (hg : Gl X x) (h : ∃ t, X.mg x = some (.int i t)) (hdb : (x == ("__debug__" : Str)) = false := by decide) : PEm X F0 H0 W (.Name x pos) (eK (.int i)) :=
  let ⟨t, e⟩ := h
  em_glob (v := .int i) hg ⟨_, e, t, rfl⟩ (.int i) hdb
theorem em_gstr {x : Str} {i : Str} (hg : Gl X x) (h : ∃ t, X.mg x = some (.str i t)) (hdb : (x == ("__debug__" : Str)) = false := by decide) : PEm X F0 H0 W (.Name x pos) (eK (.str i)) :=
  let ⟨t, e⟩ := h
  em_glob (v := .str i) hg ⟨_, e, t, rfl⟩ (.str i) hdb
theorem sm_raiseX {x t : Str} {j : Nat} {p1 p2 p3 : Pos} (h : ExF X.K X.mg x) (hc : X.calm = true) (tk : Takes X W) (hg : Gl X x) (hdb : (x == ("__debug__" : Str)) = false := by decide) : PSm X F0 H0 W (.Raise (some (.Call (.Name x p1) [.Constant (.str t) j p2] [] p3)) none pos) (fun ρ => .rs x ρ) :=
  sm_raise hc tk h.ex h.gC h.kp (raises_own h.sb h.ty) hg hdb
/-- the items of a written tuple -/
def iK (ds : List D) : AM := fun _ => .ok ds
theorem itt_ok {K : PySem.W.Frag} {mg : Str → Option Value} {F : Hp} {a : Addr} {xs : List V} {ds : List D} (h : ∀ H, SqT K H a xs) (l : ∀ F, DatL K mg F xs ds) : ItOk K mg F (Itt K a) ds := fun i F1 H1 s1 s2 => by
  refine ⟨fun d hd => ?_, fun hl => ⟨xs, h H1, by rw [(l F).len]; exact hl⟩⟩
  obtain ⟨v, hv, dv⟩ := (l F1).getD hd
  refine ⟨⟨xs, v, h H1, hv⟩, fun x H2 ⟨e, y⟩ => ?_⟩
  subst e
  have z := y xs (h _)
  rw [hv] at z; cases z
  exact ⟨F1, Ext.refl s2, dv⟩
theorem im_gtup {x : Str} {ds : List D} (hg : Gl X x) (h : GTup X.K X.mg x ds) (hdb : (x == ("__debug__" : Str)) = false := by decide) : PIm X F0 H0 W tg (.Name x pos) (iK ds) := by
  obtain ⟨a, xs, hm, hq, hl⟩ := h
  exact PI.imp (pi_tup (pe_glob (v := .ref a) hg hm rfl hdb)) fun σ H R ⟨F, ρ, r, g⟩ => ⟨a, rfl, ⟨xs, hq H⟩, g F H _ (Ext.refl r.fh) (itt_ok hq hl)⟩
/-- x in a written tuple -/
def eInK (neg : Bool) (ds : List D) (ma : EM) : EM := fun ρ => (ma ρ).bind fun x => if x.flat && ds.all D.flat then .ok (.bl (if neg then !x.inb ds else x.inb ds)) else .no
theorem inK_read {x : Str} {ds : List D} {neg : Bool} (h : GTup X.K X.mg x ds) : ∃ a, X.mg x = some (.ref a) ∧ ∀ σ H Q, tE X.K X.mg F0 H0 W (eInK neg ds ma) σ H Q → tOp (rIn X.K neg) (tEb X.K X.mg F0 H0 W ma) (tC (.ref a)) σ H Q := by
  obtain ⟨a, xs, hm, hq, hl⟩ := h
  refine ⟨a, hm, fun σ H Q ⟨F, ρ, r, g⟩ => ⟨F, ρ, r, g.bind.imp fun d k F1 H1 v x1 d1 => ?_⟩⟩
  by_cases hc : (d.flat && ds.all D.flat) = true
  · rw [if_pos hc] at k
    obtain ⟨c1, c2⟩ := Bool.and_eq_true_iff.mp hc
    refine ⟨a, xs, rfl, .inr (hq H1), flat_V d1 c1, flat_Vs (hl F1) c2, ?_⟩
    rw [inb_V d1 c1 (hl F1) c2]
    exact k F1 H1 _ x1 (.bl _)
  · rw [if_neg hc] at k; exact False.elim k
theorem em_inK {x : Str} {ds : List D} {p : Pos} (ha : PBm X F0 H0 W a ma) (hg : Gl X x) (h : GTup X.K X.mg x ds) (hdb : (x == ("__debug__" : Str)) = false := by decide) : PEm X F0 H0 W (.Compare a [.In] [.Name x p] pos) (eInK false ds ma) := by
  obtain ⟨A, hm, k⟩ := inK_read (F0 := F0) (H0 := H0) (W := W) (ma := ma) (neg := false) h
  exact PE.imp (pe_cmpR op_in_seq ha (pe_glob (v := .ref A) hg hm rfl hdb) rfl) k
theorem tm_inK {x : Str} {ds : List D} {p : Pos} (ha : PBm X F0 H0 W a ma) (hg : Gl X x) (h : GTup X.K X.mg x ds) (hdb : (x == ("__debug__" : Str)) = false := by decide) : PTm X F0 H0 W (.Compare a [.In] [.Name x p] pos) (tOf (eInK false ds ma)) := by
  obtain ⟨A, hm, k⟩ := inK_read (F0 := F0) (H0 := H0) (W := W) (ma := ma) (neg := false) h
  exact PT.imp (pt_cmpR op_in_seq ha (pe_glob (v := .ref A) hg hm rfl hdb) rfl) (test_of k _ rfl)

/-! ### list(range(n)) -/
def eLrng (ma : EM) : EM := fun ρ => (ma ρ).bind fun d => match d with
  | .int j => if decide (0 ≤ j) && decide (j ≤ 1000000) then .ok (.lst ((List.range j.toNat).map fun i : Nat => .int i)) else .no
  | _ => .no
theorem ints_dat {K : PySem.W.Frag} {mg : Str → Option Value} {F : Hp} (f : Nat → Int) : ∀ l : List Nat, DatL K mg F (l.map fun i => V.int (f i)) (l.map fun i => D.int (f i))
  | [] => .nil
  | _ :: l => .cons (.int _) (ints_dat f l)
theorem fm_lrng {p1 p2 q : Pos} (hc : X.calm = true) (hg : Gl X "list") (hm : X.mg "list" = none) (hg2 : Gl X "range") (hm2 : X.mg "range" = none) (ha : PBm X F0 H0 W a ma)
    (na : starEach [a] X.env = (false, eval a X.env) :: starEach [] X.env := by rfl) (na2 : starEach [.Call (.Name "range" p2) [a] [] q] X.env = (false, eval (.Call (.Name "range" p2) [a] [] q) X.env) :: starEach [] X.env := by rfl) :
    PFm X F0 H0 W (.Call (.Name "list" p1) [.Call (.Name "range" p2) [a] [] q] [] pos) (eLrng ma) := by
  refine PE.imp (pe_listRg hc hg hm (prg_1 hg2 hm2 ha na) na2) fun σ H Q ⟨F, ρ, r, g⟩ => ?_
  refine ⟨F, ρ, r, g.bind.imp fun d k F1 H1 v x1 d1 => ?_⟩
  split at k
  · rename_i j
    by_cases hj : (decide (0 ≤ j) && decide (j ≤ 1000000)) = true
    · rw [if_pos hj] at k
      simp only [Bool.and_eq_true, decide_eq_true_eq] at hj
      refine ⟨j, d1.int, RgOk.of_le (by omega) (by omega) (by omega) (by omega), fun p n => ?_⟩
      have e : rgV 0 j = (List.range j.toNat).map fun i : Nat => V.int (i : Int) := by unfold rgV; simp
      rw [e]
      exact k F1 _ p ⟨x1.ff, x1.fh.trans (same_upd n), x1.hh.trans (same_upd n), x1.nw⟩ (x1.fh.free n) (x1.hh.free n) ⟨_, upd_same, ints_dat (fun i => (i : Int)) _⟩
    · rw [if_neg hj] at k; exact False.elim k
  · exact False.elim k

/-! ### ints in lists: sorted, min, sum -/
def D.ints : List D → Option (List Int)
  | [] => some []
  | .int i :: r => (D.ints r).map (i :: ·)
  | _ => none
theorem ints_V {K : PySem.W.Frag} {mg : Str → Option Value} {F : Hp} : ∀ {vs : List V} {ds : List D} {xs : List Int}, DatL K mg F vs ds → D.ints ds = some xs → vs = xs.map V.int
  | _, _, _, .nil, h => by cases h; rfl
  | _, _, _, .cons (d := d) (ds := ds) hv l, h => by
    cases d with
    | int x =>
      have h1 : (D.ints ds).map (x :: ·) = some _ := h
      cases q : D.ints ds with
      | none => rw [q] at h1; cases h1
      | some r =>
        rw [q] at h1; cases h1
        cases hv
        rw [ints_V l q]
        rfl
    | _ => cases h
def insI (x : Int) : List Int → List Int
  | [] => [x]
  | y :: r => if x ≤ y then x :: y :: r else y :: insI x r
def sortI : List Int → List Int
  | [] => []
  | x :: r => insI x (sortI r)
theorem insI_perm (x : Int) : ∀ l : List Int, (insI x l).Perm (x :: l)
  | [] => .refl _
  | y :: r => by
    unfold insI
    split
    · exact .refl _
    · exact ((insI_perm x r).cons y).trans (List.Perm.swap x y r)
theorem sortI_perm : ∀ l : List Int, (sortI l).Perm l
  | [] => .refl _
  | x :: r => (insI_perm x _).trans ((sortI_perm r).cons x)
theorem insI_sorted (x : Int) : ∀ l : List Int, l.Pairwise (· ≤ ·) → (insI x l).Pairwise (· ≤ ·)
  | [], _ => List.pairwise_singleton _ _
  | y :: r, h => by
    obtain ⟨h1, h2⟩ := List.pairwise_cons.mp h
    unfold insI
    split
    · rename_i c
      exact List.pairwise_cons.mpr ⟨fun z hz => (List.mem_cons.mp hz).elim (fun e => e ▸ c) fun hz => Int.le_trans c (h1 z hz), h⟩
    · rename_i c
      refine List.pairwise_cons.mpr ⟨fun z hz => ?_, insI_sorted x r h2⟩
      rcases List.mem_cons.mp ((insI_perm x r).mem_iff.mp hz) with e | hz
      · rw [e]; omega
      · exact h1 z hz
theorem sortI_sorted : ∀ l : List Int, (sortI l).Pairwise (· ≤ ·)
  | [] => .nil
  | x :: r => insI_sorted x _ (sortI_sorted r)
theorem sorted_one {l m : List Int} (p : l.Perm m) (h1 : l.Pairwise (· ≤ ·)) (h2 : m.Pairwise (· ≤ ·)) : l = m := List.Perm.eq_of_pairwise (fun a b _ _ c d => Int.le_antisymm c d) h1 h2 p
def bSorted : List D → Option D
  | [.lst ds] => (D.ints ds).bind fun ns => if ns.length < 64 then some (.lst ((sortI ns).map D.int)) else none
  | [.dct false ps] => (D.ints (ps.map (·.1))).bind fun ns => if ns.length < 64 then some (.lst ((sortI ns).map D.int)) else none
  | _ => none
theorem intL_dat {K : PySem.W.Frag} {mg : Str → Option Value} {F : Hp} : ∀ l : List Int, DatL K mg F (l.map V.int) (l.map D.int)
  | [] => .nil
  | _ :: l => .cons (.int _) (intL_dat l)
theorem DatK.intKeys {K : PySem.W.Frag} {mg : Str → Option Value} {F : Hp} : ∀ {kvs : List (Key × V)} {ps : List (D × D)} {ns : List Int}, DatK K mg F kvs ps → D.ints (ps.map (·.1)) = some ns → kvs.map (·.1) = ns.map Sum.inl
  | _, _, _, .nil, h => by cases h; rfl
  | _, _, _, .cons (k := k) (ds := ds) hv l, h => by
    cases k with
    | inl x =>
      have h1 : (D.ints (ds.map (·.1))).map (x :: ·) = some _ := h
      cases q : D.ints (ds.map (·.1)) with
      | none => rw [q] at h1; cases h1
      | some r =>
        rw [q] at h1; cases h1
        rw [List.map_cons, DatK.intKeys l q]
        rfl
    | inr x => cases h
theorem cm_sorted (hc : X.calm = true) : CallM X (.builtin "sorted") bSorted := by
  rintro pins s σ H xs us Q I r ⟨F, ds, d, fh, l, e, k⟩
  unfold bSorted at e
  split at e
  · rename_i ds
    obtain ⟨v, rfl, hx⟩ := l.one
    obtain ⟨a, vs, rfl, h1, l1⟩ := hx.lst fh
    cases q : D.ints ds with
    | none => rw [q] at e; cases e
    | some ns =>
      rw [q] at e
      have e' : (if ns.length < 64 then some (D.lst ((sortI ns).map D.int)) else none) = some d := e
      split at e'
      · rename_i h64
        cases e'
        have ev := ints_V l1 q
        subst ev
        refine cr_sorted pins s σ H _ us Q I r ⟨a, ns, rfl, SqL.of h1, h64, fun ns' p hp hs n => ?_⟩
        have en : ns' = sortI ns := sorted_one (hp.trans (sortI_perm ns).symm) hs (sortI_sorted ns)
        subst en
        exact lst_new fh (intL_dat _) k p n
      · cases e'
  · rename_i ps
    obtain ⟨v, rfl, hx⟩ := l.one
    obtain ⟨a, kvs, rfl, h1, l1⟩ := hx.dctK fh
    cases q : D.ints (ps.map (·.1)) with
    | none => rw [q] at e; cases e
    | some ns =>
      rw [q] at e
      have e' : (if ns.length < 64 then some (D.lst ((sortI ns).map D.int)) else none) = some d := e
      split at e'
      · rename_i h64
        cases e'
        refine call_sortedDI hc pins s σ H _ us Q I r ⟨a, kvs, ns, rfl, h1, l1.intKeys q, h64, fun ns' p hp hs n => ?_⟩
        have en : ns' = sortI ns := sorted_one (hp.trans (sortI_perm ns).symm) hs (sortI_sorted ns)
        subst en
        exact lst_new fh (intL_dat _) k p n
      · cases e'
  · cases e
def minI : List Int → Int
  | [] => 0
  | [x] => x
  | x :: r => if x ≤ minI r then x else minI r
theorem minI_ok : ∀ l : List Int, l ≠ [] → minI l ∈ l ∧ ∀ y ∈ l, minI l ≤ y
  | [], h => absurd rfl h
  | [x], _ => ⟨List.mem_singleton.mpr rfl, fun y hy => by rw [List.mem_singleton.mp hy]; exact Int.le_refl _⟩
  | x :: y :: r, _ => by
    obtain ⟨h1, h2⟩ := minI_ok (y :: r) (fun z => nomatch z)
    have e : minI (x :: y :: r) = if x ≤ minI (y :: r) then x else minI (y :: r) := rfl
    rw [e]
    split
    · rename_i c
      exact ⟨List.mem_cons_self, fun z hz => (List.mem_cons.mp hz).elim (fun q => by rw [q]; exact Int.le_refl _) fun hz => Int.le_trans c (h2 z hz)⟩
    · rename_i c
      exact ⟨List.mem_cons_of_mem _ h1, fun z hz => (List.mem_cons.mp hz).elim (fun q => by rw [q]; omega) fun hz => h2 z hz⟩
def bMin : List D → Option D
  | [.lst ds] => (D.ints ds).bind fun ns => if 0 < ns.length then some (.int (minI ns)) else none
  | _ => none
theorem cm_min (hc : X.calm = true) : CallM X (.builtin "min") bMin := by
  rintro pins s σ H xs us Q I r ⟨F, ds, d, fh, l, e, k⟩
  unfold bMin at e
  split at e
  · rename_i ds
    obtain ⟨v, rfl, hx⟩ := l.one
    obtain ⟨a, vs, rfl, h1, l1⟩ := hx.lst fh
    cases q : D.ints ds with
    | none => rw [q] at e; cases e
    | some ns =>
      rw [q] at e
      have e' : (if 0 < ns.length then some (D.int (minI ns)) else none) = some d := e
      split at e'
      · rename_i h0
        cases e'
        have ev := ints_V l1 q
        subst ev
        refine cr_min hc pins s σ H _ us Q I r ⟨a, ns, rfl, SqL.of h1, h0, fun m hm hle => ?_⟩
        obtain ⟨g1, g2⟩ := minI_ok ns (fun z => by rw [z] at h0; exact absurd h0 (Nat.lt_irrefl 0))
        have em : m = minI ns := Int.le_antisymm (hle _ g1) (g2 _ hm)
        subst em
        exact k F H _ (Ext.refl fh) (.int _)
      · cases e'
  · cases e
def bSum : List D → Option D
  | [.lst ds] => (D.ints ds).map fun ns => .int ns.sum
  | _ => none
theorem cm_sum (hc : X.calm = true) : CallM X (.builtin "sum") bSum := by
  rintro pins s σ H xs us Q I r ⟨F, ds, d, fh, l, e, k⟩
  unfold bSum at e
  split at e
  · rename_i ds
    obtain ⟨v, rfl, hx⟩ := l.one
    obtain ⟨a, vs, rfl, h1, l1⟩ := hx.lst fh
    cases q : D.ints ds with
    | none => rw [q] at e; cases e
    | some ns =>
      rw [q] at e; cases e
      have ev := ints_V l1 q
      subst ev
      exact cr_sum hc pins s σ H _ us Q I r ⟨a, ns, rfl, SqL.of h1, k F H _ (Ext.refl fh) (.int _)⟩
  · cases e

/-! ### methods of texts and lists -/
theorem mm_join : MetM X "str.join" mJoin := by
  rintro pins s σ H x xs v us Q I rx rs ⟨F, dx, ds, d, fh, hx, l, e, k⟩
  unfold mJoin at e
  split at e
  · rename_i ys
    obtain ⟨w, rfl, hy⟩ := l.one
    split at e
    · rename_i _ _ y zs h2
      split at e
      · rename_i hl
        cases e
        obtain ⟨a, vs, rfl, h1, l1⟩ := hy.lst fh
        have ev := strs_V l1 h2
        subst ev
        exact mt_join pins s σ H _ _ v us Q I rx rs ⟨y, a, zs, hx.str, rfl, .inl (SqL.of h1), Nat.le_trans hl (by decide), k F H _ (Ext.refl fh) (.str _)⟩
      · cases e
    · cases e
  · cases e
def mSplit (x : D) : List D → Option D
  | [.str y] => match x with
    | .str z => if (y.length == 0) = false ∧ z.length + 2 ≤ lim then some (.lst ((Txt.split z y).map D.str)) else none
    | _ => none
  | _ => none
theorem strL_dat {K : PySem.W.Frag} {mg : Str → Option Value} {F : Hp} : ∀ l : List Str, DatL K mg F (l.map V.str) (l.map D.str)
  | [] => .nil
  | _ :: l => .cons (.str _) (strL_dat l)
theorem mm_split : MetM X "str.split" mSplit := by
  rintro pins s σ H x xs v us Q I rx rs ⟨F, dx, ds, d, fh, hx, l, e, k⟩
  unfold mSplit at e
  split at e
  · obtain ⟨w, rfl, hy⟩ := l.one
    split at e
    · split at e
      · rename_i hl
        cases e
        exact mt_split pins s σ H _ _ v us Q I rx rs ⟨_, _, hx.str, by rw [hy.str], hl.1, lim_line hl.2, lst_new fh (strL_dat _) k⟩
      · cases e
    · cases e
  · cases e
def mIndexS (x : D) : List D → Option D
  | [.str y] => match x with
    | .str z => match Builtin.Str.occurrences z y 0 z.length 1 with
      | i :: _ => some (.int (i : Nat))
      | [] => none
    | _ => none
  | _ => none
theorem mm_indexS : MetM X "str.index" mIndexS := by
  rintro pins s σ H x xs v us Q I rx rs ⟨F, dx, ds, d, fh, hx, l, e, k⟩
  unfold mIndexS at e
  split at e
  · obtain ⟨w, rfl, hy⟩ := l.one
    split at e
    · split at e
      · rename_i i rest ho
        cases e
        exact mt_sindex pins s σ H _ _ v us Q I rx rs ⟨_, _, i, rest, hx.str, by rw [hy.str], ho, k F H _ (Ext.refl fh) (.int _)⟩
      · cases e
    · cases e
  · cases e
def idxOf (x : D) : List D → Nat → Option Nat
  | [], _ => none
  | z :: r, n => if z.eqb x then some n else idxOf x r (n + 1)
theorem idxOf_ok {x : D} : ∀ {l : List D} {n j : Nat}, idxOf x l n = some j → ∃ i, j = n + i ∧ (∃ z, l[i]? = some z ∧ z.eqb x = true) ∧ ∀ k z, k < i → l[k]? = some z → z.eqb x = false
  | [], _, _, h => by cases h
  | z :: r, n, j, h => by
    unfold idxOf at h
    split at h
    · rename_i c
      cases h
      exact ⟨0, rfl, ⟨z, rfl, c⟩, fun k _ hk => absurd hk (Nat.not_lt_zero _)⟩
    · rename_i c
      obtain ⟨i, h1, ⟨z', h2, h3⟩, h4⟩ := idxOf_ok h
      refine ⟨i + 1, by omega, ⟨z', h2, h3⟩, fun k w hk hw => ?_⟩
      cases k with
      | zero => cases hw; exact Bool.eq_false_iff.mpr c
      | succ k => exact h4 k w (by omega) hw
def mIndexL (x : D) : List D → Option D
  | [y] => match x with
    | .lst ds => if SeqAt.shaped (D.lst ds).py && SeqAt.shaped y.py then (idxOf y ds 0).map fun i => .int (i : Nat) else none
    | _ => none
  | _ => none
theorem pys_get : ∀ {ds : List D} {i : Nat} {d : D}, ds[i]? = some d → (D.pys ds)[i]? = some d.py
  | _ :: _, 0, _, h => by cases h; rfl
  | _ :: r, i + 1, _, h => pys_get (ds := r) (i := i) h
theorem pys_back : ∀ {ds : List D} {i : Nat} {z : PyData}, (D.pys ds)[i]? = some z → ∃ d, ds[i]? = some d ∧ z = d.py
  | d :: _, 0, _, h => by cases h; exact ⟨d, rfl, rfl⟩
  | _ :: r, i + 1, _, h => pys_back (ds := r) (i := i) h
theorem mm_indexL (hu : X.A.units + 65 < cLine) : MetM X "list.index" mIndexL := by
  rintro pins s σ H x xs v us Q I rx rs ⟨F, dx, ds, d, fh, hx, l, e, k⟩
  unfold mIndexL at e
  split at e
  · obtain ⟨w, rfl, hy⟩ := l.one
    split at e
    · rename_i _ y _ ys
      split at e
      · rename_i hc
        obtain ⟨c1, c2⟩ := Bool.and_eq_true_iff.mp hc
        cases q : idxOf y ys 0 with
        | none => rw [q] at e; cases e
        | some j =>
          rw [q] at e; cases e
          obtain ⟨i, h1, ⟨z, h2, h3⟩, h4⟩ := idxOf_ok q
          have ej : j = i := by omega
          subst ej
          obtain ⟨a, vs, rfl, ha, l1⟩ := hx.lst fh
          exact mt_indexD hu pins s σ H _ _ v us Q I rx rs ⟨a, w, y.py, D.pys ys, j, z.py, rfl, rfl, hx.dp fh (SeqAt.canLay_of_shaped c1), hy.dp fh (SeqAt.canLay_of_shaped c2), c1, c2, pys_get h2, h3, fun m z' hm hz => by
            obtain ⟨d', hd, rfl⟩ := pys_back hz
            exact h4 m d' hm hd, k F H _ (Ext.refl fh) (.int _)⟩
      · cases e
    · cases e
  · cases e

/-! ### a, b, c = x, y, z -/
def sPar3 (i j l : Nat) (ma mb mc : EM) : SM := fun ρ => (aAll [ma, mb, mc] ρ).out ρ fun ds => match ds with
  | [x, y, z] => .nx (((ρ.set i (some (.val x))).set j (some (.val y))).set l (some (.val z)))
  | _ => .no
theorem sm_par3 {i j l : Nat} {x y z : Str} {px py pz pt : Pos} {kt k2 : Nat} {pt2 : Pos} (hc : X.calm = true) (hN : X.N.Nodup) (hi : X.N[i]? = some x) (hj : X.N[j]? = some y) (hl : X.N[l]? = some z) (hij : i ≠ j) (hil : i ≠ l) (hjl : j ≠ l)
    (hx : X.env.scope.names.lookup x = some .local) (hy : X.env.scope.names.lookup y = some .local) (hz : X.env.scope.names.lookup z = some .local) (ha : PAm X F0 H0 W [a, b, c] [ma, mb, mc])
    (hw : swappedStores [.Tuple [.Name x px, .Name y py, .Name z pz] kt pt] (.Tuple [a, b, c] k2 pt2) X.env = pure (some [x, y, z]))
    (hs : swapsWithSole [.Tuple [.Name x px, .Name y py, .Name z pz] kt pt] (.Tuple [a, b, c] k2 pt2) pos.line X.env = pure false := by rfl) :
    PSm X F0 H0 W (.Assign [.Tuple [.Name x px, .Name y py, .Name z pz] kt pt] (.Tuple [a, b, c] k2 pt2) pos) (sPar3 i j l ma mb mc) := by
  refine PS.imp (ps_par3 hc hN hi hj hl hij hil hjl hx hy hz ha hw hs) fun D σ H ⟨F, ρ, r, h⟩ => ⟨F, ρ, r, (OutOk.got r h).imp fun ds k F' H' vs x l => ?_⟩
  split at k
  · cases l with | cons h1 l => cases l with | cons h2 l => cases l with | cons h3 l =>
    cases l
    exact ⟨_, _, _, rfl, k F' _ H' ((((r.ext x).put i h1).put j h2).put _ h3)⟩
  · exact False.elim k

/-! ### d.pop(k) of a dict that a slot alone holds -/
def sDpop (i : Nat) (mk : EM) : SM := fun ρ => match slAt ρ i with
  | some (.own (.dct false ps)) => (mk ρ).out ρ fun k => if D.keyOk false k && (D.find k ps).isSome then .nx (ρ.set i (some (.own (.dct false (D.drop ps k))))) else .no
  | _ => .no
theorem sm_dpop (i : Nat) {x : Str} {p1 p2 p3 p4 : Pos} (he : PBm X F0 H0 W e m) (hN : X.N[i]? = some x := by rfl) (hv : Vis X.env.scope x := by first | exact Or.inl rfl | exact Or.inr (Or.inl rfl) | exact Or.inr (Or.inr rfl)) (hd : (x == ("__debug__" : Str)) = false := by decide) (hcd : (x == ("__classdict__" : Str)) = false := by decide)
    (m1 : M1 X (.Name x p1) "pop" p2 e p3 := by exact ⟨rfl, rfl, rfl, rfl⟩) (hsw : swapsWith (.Call (.Attribute (.Name x p1) "pop" p2) [e] [] p3) none p4.line X.env = pure false := by rfl) :
    PSm X F0 H0 W (.Expr (.Call (.Attribute (.Name x p1) "pop" p2) [e] [] p3) p4) (sDpop i m) := by
  refine PS.imp (ps_expr (pe_dpop1 (pe_var hN hv hd hcd) he m1) hsw) fun En σ H ⟨F, ρ, r, h⟩ => ?_
  unfold sDpop at h
  split at h
  · rename_i ps e0
    obtain ⟨v, hv, a, rfl, n, kvs, ha, l⟩ := r.sl i _ (slAt_some e0)
    refine ⟨_, hv, a, rfl, .inl ⟨kvs, .inl ha⟩, F, ρ, r, (OutOk.got r h).imp fun d k F' H' w x q => ?_⟩
    by_cases hc : (D.keyOk false d && (D.find d ps).isSome) = true
    · rw [if_pos hc] at k
      obtain ⟨c1, c2⟩ := Bool.and_eq_true_iff.mp hc
      obtain ⟨j, hj⟩ := key_ex c1
      have ew := key_V q hj
      have ha' := x.hh _ _ ha
      rcases find_K hj l with ⟨_, h2⟩ | ⟨u, d', h1, _, _⟩
      · rw [h2] at c2; cases c2
      · exact ⟨kvs, j, u, ha', ew, h1, k F' σ _ ((r.ext x).write (slAt_some e0) hv ⟨_, upd_same, DatK.drop hj (l.mono x.ff)⟩)⟩
    · rw [if_neg hc] at k; exact False.elim k
  · exact False.elim h
end
end L2.Pv

set_option Elab.async false
set_option linter.all false
set_option maxRecDepth 100000
set_option maxHeartbeats 4000000
set_option autoImplicit false
/-! enumerate, zip. -/
namespace L2.Pv
open PySem PySem.Spec PyProof.Rows

section
variable {prog : Program} {w : World} {A : Around} {E : Value → Shared → Prop} {s : Shared}
set_option maxHeartbeats 8000000 in
theorem meets_enum_newB {v : Value} {o : Obj} {H : Heap → Prop} (B : Begins v o H) :
    Meets (Builtin.«enumerate.__new__» ⟨[.type "enumerate", v], []⟩) (fun _ R s => H s.heap ∧
      R (.ok (.ret (.ref (s.heap.push o).objs.size))) { s with heap := (s.heap.push o).push { cls := .type "enumerate", data := .fields #[.none, .bool false, .ref s.heap.objs.size, rawInt 0, .none, .none] } }) :=
  .of_wp fun prog w A R s h => by
    obtain ⟨hp, g, d, tk, os⟩ := s; obtain ⟨h1, h⟩ := h
    have hsub := sub_enumerate
    have q1 : ∀ {A' : Around} {E : Value → Shared → Prop} {Q : Value → Shared → Prop}, Q (.ref hp.objs.size) ⟨hp.push o, g, d, tk, os⟩ → wpAny (model prog w) A' (pyIter v) Q E ⟨hp, g, d, tk, os⟩ :=
      fun q => B.iter prog w _ _ ⟨hp, g, d, tk, os⟩ _ h1 q
    wp_walk using q1
    refine wpAny_stack_any fun st => wpAny_pure ?_
    split
    · rename_i c _ _ _ _ _
      cases (c == Value.type "enumerate")
      · wp_walk using q1
        exact ⟨_, rfl, h⟩
      · wp_walk using q1
        exact ⟨_, rfl, h⟩
    · wp_walk using q1
      exact ⟨_, rfl, h⟩
theorem enum_begins1 {v : Value} {o : Obj} {H : Heap → Prop} {Q : Value → Shared → Prop} (B : Begins v o H) (h1 : H s.heap)
    (h : ∀ h', IsEnum h' (s.heap.objs.size + 1) s.heap.objs.size 0 .none → h'.get? s.heap.objs.size = some o → h'.objs.size = s.heap.objs.size + 2 →
      (∀ b o, s.heap.get? b = some o → h'.get? b = some o) → Q (.ref (s.heap.objs.size + 1)) { s with heap := h' }) :
    wpAny (model prog w) A (call (.type "enumerate") [v]) Q E s := by
  refine callType_new F.called_enumerate (by decide) (F.typeCall_enumerate_1 _) (F.newCall_enumerate_1 _) (fun obj => F.args_object_init_2 obj _) F.entry_enumerate_new
    (meets_enum_newB B) ⟨h1, ?_⟩
  have hz : (s.heap.push o).objs.size = s.heap.objs.size + 1 := Heap.size_push ..
  show _ ∧ _
  rw [hz]
  have he : IsEnum ((s.heap.push o).push { cls := .type "enumerate", data := .fields #[.none, .bool false, .ref s.heap.objs.size, rawInt 0, .none, .none] }) (s.heap.objs.size + 1) s.heap.objs.size 0 .none := by
    have := Heap.get?_push_size (s.heap.push o) (o := { cls := .type "enumerate", data := .fields #[.none, .bool false, .ref s.heap.objs.size, rawInt 0, .none, .none] }) rfl
    rw [hz] at this; exact this
  refine ⟨⟨_, he, rfl⟩, h _ he (Heap.get?_push_of_some _ (Heap.get?_push_size _ B.free)) (by rw [Heap.size_push, hz]) fun b o x => Heap.get?_push_of_some _ (Heap.get?_push_of_some _ x)⟩
end

/-- enumerate over a tuple -/
def IteT (K : PySem.W.Frag) (a : Addr) : It :=
  ⟨fun i H => ∃ (xs : List V) (x : V), SqT K H a xs ∧ xs[i]? = some x, fun i H v H' => ∃ T x, v = .ref T ∧ H T = none ∧ H' = upd H T (.tup [.int (i : Nat), x]) ∧ ∀ xs, SqT K H a xs → xs[i]? = some x, fun i H => ∃ xs : List V, SqT K H a xs ∧ xs.length ≤ i⟩
theorem turn_enumT {P : Program} {w : World} {K : PySem.W.Frag} {elts : List Expr} {kk : Nat} {tpos : Pos} (a e it : Addr) :
    Turn P w K (.Tuple elts kk tpos) (IteT K a) [e, it] e (fun i h => (∃ old, IsEnum h e it ((i : Nat) : Int) old) ∧ h.IsTupleIter it a i ∧ e ≠ it ∧ a ≠ it ∧ a ≠ e) where
  mem := by simp
  obj := fun i h st b hb => by
    obtain ⟨⟨old, he⟩, ⟨o, ho, hc, hd⟩, _⟩ := st
    have e' : b = e ∨ b = it := by simpa using hb
    rcases e' with z | z
    · rw [z]; exact ⟨_, he, fun v q => nomatch q⟩
    · rw [z]; exact ⟨o, ho, fun v q => by rw [hd] at q; cases q⟩
  keep := fun i h h' st k => let ⟨⟨old, he⟩, hi, hne⟩ := st; ⟨⟨old, k e (by simp) _ he⟩, hi.at fun o q => k it (by simp) o q, hne⟩
  item := by
    intro X hP hw hK hc i pins s σ H E I hf st hg
    subst hP hw hK
    obtain ⟨⟨old, he⟩, hit, hne, hai, hae⟩ := st
    obtain ⟨xs, x, hq, hx⟩ := hg
    obtain ⟨its, rv, p, hz⟩ := I.tuple hq
    obtain ⟨u, hu, ru⟩ := rv.get hx
    have hel : e < s.heap.objs.size := Heap.lt_size he
    have hil : it < s.heap.objs.size := by obtain ⟨_, q, _⟩ := hit; exact Heap.lt_size q
    have hlt : i < its.toArray.size := by have := (List.getElem?_eq_some_iff.mp hu).1; simpa using this
    refine wpAny_pyNext_enum_itemD (fp := [it, a]) (Draws.tuple (A := X.A.in1) (show X.A.in1.handled = none from I.ok.hd hc) it a hai its.toArray) he (St := fun i h => h.IsTupleIter it a i ∧ h.IsTuple a its.toArray) ⟨hit, show s.heap.IsTuple a its.toArray from p⟩ hlt hne (by intro h; rcases List.mem_cons.mp h with z | z; exact hne z; exact hae (List.mem_singleton.mp z).symm) fun y h' tk hy ho hs' hT hsz hk => ?_
    have ey : y = u := by
      have z : its.toArray[i]? = some u := by simpa using hu
      rw [z] at hy; cases hy; rfl
    subst ey
    refine ⟨_, rfl, wpAny_letOwnedTupleGo_enum (s := { s with heap := h', toks := tk + 1 }) ho fun h'' he' sb => ?_⟩
    have hT2 : h''.get? s.heap.objs.size = some { cls := .type "tuple", data := .seq #[.int i tk, y] } := (sb.2 _ (Nat.ne_of_gt hel)).trans hT
    have new : ObjOk X.prog X.w (upd H s.heap.objs.size (.tup [.int (i : Nat), x])) h'' s.heap.objs.size (.tup [.int (i : Nat), x]) :=
      ⟨by show 2 ≤ sizeLine; decide, [.int i tk, y], .cons ⟨_, rfl⟩ (.cons ru .nil), ⟨_, hT2, rfl, _, rfl⟩⟩
    have I1 : Inv X pins σ (upd H s.heap.objs.size (.tup [.int (i : Nat), x])) { s with heap := h'', toks := tk + 1 } :=
      I.turnedNew (ch := [e, it]) (fun b ob hb q => (sb.2 b (fun z => hb (by simp [z]))).trans (hk b ob (fun z => hb (by simp [z])) (fun z => hb (by simp [z])) q)) hf (Nat.le_refl _) new
    refine ⟨.ref s.heap.objs.size, _, I1, rfl, ⟨_, x, rfl, I.hok.fresh (Nat.le_refl _), rfl, fun ys hy => by rw [I.tuple_inj hy hq]; exact hx⟩, ⟨⟨y, ?_⟩, hs'.1.at fun o q => (sb.2 it (Ne.symm hne)).trans q, hne, hai, hae⟩, fun b hb => ?_⟩
    · have e1 : ((i + 1 : Nat) : Int) = (i : Int) + 1 := by omega
      rw [e1]; exact he'
    · have hb' : b < s.heap.objs.size := by
        have e' : b = e ∨ b = it := by simpa using hb
        rcases e' with z | z
        · rw [z]; exact hel
        · rw [z]; exact hil
      rw [upd_ne (Nat.ne_of_lt hb')]
      exact (hf b hb).1
  done := by
    intro X hP hw hK hc i pins s σ H E I hf st hg
    subst hP hw hK
    obtain ⟨⟨old, he⟩, hit, hne, hai, hae⟩ := st
    obtain ⟨xs, hq, hx⟩ := hg
    obtain ⟨its, rv, p, hz⟩ := I.tuple hq
    obtain ⟨f0, f1, f2, f3, f4, f5⟩ := hf it (by simp)
    have hl := rv.length
    have D : Draws X.prog X.w X.A.in1 it [it, a] i (fun _ _ => True) (fun j h => h.IsTupleIter it a j ∧ h.IsTuple a its.toArray ∧ j = i) :=
      { live := fun _ _ st => let ⟨o, ho, _⟩ := st.1; ⟨o, ho⟩
        frame := fun _ _ _ st hk => ⟨st.1.at fun o e => hk it (by simp) o e, st.2.1.at fun o e => hk a (by simp) o e, st.2.2⟩
        item := fun j s Q E hj st hQ => absurd st.2.2 (by omega)
        done := fun s Q E st hE => wpAny_nextOf_tuple_end (A := X.A.in1) (show X.A.in1.handled = none from I.ok.hd hc) st.1 st.2.1 (by simp; omega) hE }
    exact wpAny_pyNext_enum_endD D he ⟨hit, p, rfl⟩ fun h' eb => ⟨rfl, I.turned (t' := s.toks) (fun b o hb q => eb b o hb q) f0 f1 f3 f4 f5⟩
  self := fun A i s Q E st h => let ⟨⟨_, he⟩, _⟩ := st; wpAny_pyIter_enum he h

/-- the items with their numbers from i -/
def enumL : Nat → List D → List D
  | _, [] => []
  | i, d :: ds => .tup [.int (i : Nat), d] :: enumL (i + 1) ds
theorem enumL_get : ∀ (ds : List D) (k i : Nat), (enumL k ds)[i]? = ds[i]?.map fun d => D.tup [.int ((k + i : Nat) : Int), d]
  | [], _, _ => rfl
  | d :: ds, k, 0 => rfl
  | d :: ds, k, i + 1 => by
    show (enumL (k + 1) ds)[i]? = _
    rw [enumL_get ds (k + 1) i, List.getElem?_cons_succ, show k + 1 + i = k + (i + 1) from by omega]
theorem enumL_len : ∀ (ds : List D) (k : Nat), (enumL k ds).length = ds.length
  | [], _ => rfl
  | d :: ds, k => by
    show (enumL (k + 1) ds).length + 1 = _
    rw [enumL_len ds (k + 1)]; rfl
def enumD : D → Option (List D)
  | .lst ds => some (enumL 0 ds)
  | .tup ds => some (enumL 0 ds)
  | .scr ns => some (enumL 0 (ns.map D.int))
  | _ => none
def iEn (m : EM) : AM := fun ρ => (m ρ).bind fun d => R.of (enumD d)
section
variable {X : Cx} {F0 H0 : Hp} {W : WX} {e : Expr} {m : EM} {pos : Pos}
theorem enum_new {K : PySem.W.Frag} {mg : Str → Option Value} {F1 H1 H3 : Hp} {x : V} {y : V} {d : D} {i : Nat} {T : Addr} (s2 : Same F1 H1) (dv : Dat K mg F1 y d) (hn : H1 T = none) (e : H3 = upd H1 T (.tup [.int (i : Nat), y])) (ex : x = .ref T) :
    ∃ F3, Ext F1 H1 F3 H3 ∧ Dat K mg F3 x (.tup [.int (i : Nat), d]) := by
  subst e ex
  exact ⟨_, Ext.new s2 hn, .tup upd_same (.cons (.int _) (.cons (dv.mono (same_upd (s2.free hn))) .nil))⟩
theorem enum_okL {K : PySem.W.Frag} {mg : Str → Option Value} {F : Hp} {a : Addr} {xs : List V} {ds : List D} (h : ∀ F1 H1, Same F F1 → Same F1 H1 → SqL K H1 a xs) (l : DatL K mg F xs ds) : ItOk K mg F (Ite K a) (enumL 0 ds) := fun i F1 H1 s1 s2 => by
  have q := h F1 H1 s1 s2
  refine ⟨fun d hd => ?_, fun hl => ⟨xs, q, by rw [l.len]; rw [enumL_len] at hl; exact hl⟩⟩
  rw [enumL_get, Nat.zero_add] at hd
  cases hd0 : ds[i]? with
  | none => rw [hd0] at hd; cases hd
  | some d0 =>
    rw [hd0] at hd; cases hd
    obtain ⟨v, hv, dv⟩ := l.getD hd0
    refine ⟨⟨xs, v, q, hv⟩, fun x H3 ⟨T, y, ex, hn, eH, z⟩ => ?_⟩
    have z := z xs q
    rw [hv] at z; cases z
    exact enum_new s2 (dv.mono s1) hn eH ex
theorem enum_okT {K : PySem.W.Frag} {mg : Str → Option Value} {F : Hp} {a : Addr} {xs : List V} {ds : List D} (h : ∀ F1 H1, Same F F1 → Same F1 H1 → SqT K H1 a xs) (l : DatL K mg F xs ds) : ItOk K mg F (IteT K a) (enumL 0 ds) := fun i F1 H1 s1 s2 => by
  have q := h F1 H1 s1 s2
  refine ⟨fun d hd => ?_, fun hl => ⟨xs, q, by rw [l.len]; rw [enumL_len] at hl; exact hl⟩⟩
  rw [enumL_get, Nat.zero_add] at hd
  cases hd0 : ds[i]? with
  | none => rw [hd0] at hd; cases hd
  | some d0 =>
    rw [hd0] at hd; cases hd
    obtain ⟨v, hv, dv⟩ := l.getD hd0
    refine ⟨⟨xs, v, q, hv⟩, fun x H3 ⟨T, y, ex, hn, eH, z⟩ => ?_⟩
    have z := z xs q
    rw [hv] at z; cases z
    exact enum_new s2 (dv.mono s1) hn eH ex
theorem im_enum {p tpos : Pos} {elts : List Expr} {kk : Nat} (hg : Gl X "enumerate") (hm : X.mg "enumerate" = none) (he : PEm X F0 H0 W e m) (hs : starEach [e] X.env = [(false, eval e X.env)] := by rfl) :
    PIm X F0 H0 W (.Tuple elts kk tpos) (.Call (.Name "enumerate" p) [e] [] pos) (iEn m) := by
  refine ⟨fun pins s σ H R I ⟨F, ρ, r, g⟩ => ?_⟩
  refine Call_ (ld_blt I hg hm boot_enumerate (PyProof.Rows.callWith_type1 (thn ((pa_cons he pa_nil hs).run pos pins s σ H (fun vs H' => ∃ v, vs = [v] ∧ ∃ F' d ds, Ext F H F' H' ∧ Dat X.K X.mg F' v d ∧ enumD d = some ds ∧ ∀ F' H' J, Ext F H F' H' → ItOk X.K X.mg F' J ds → R J H') I ⟨F, ρ, r, g.bind.imp fun d k F' H' v x q => ?_⟩) fun us s1 ⟨vs, H1, I1, r1, q1⟩ => ?_) hs rfl))
  · obtain ⟨ds, e, k⟩ := k.of
    exact ⟨v, rfl, F', d, ds, x, q, e, k⟩
  obtain ⟨v, rfl, F1, d, ds, x, q, e, k⟩ := q1
  obtain ⟨u, rfl, r⟩ := vals1 r1
  have fp2 : ∀ b, b ∈ [s1.heap.objs.size + 1, s1.heap.objs.size] → FpOk X pins H1 b := fun b hb => by
    have e' : b = s1.heap.objs.size + 1 ∨ b = s1.heap.objs.size := by simpa using hb
    have hle : s1.heap.objs.size ≤ b := by
      rcases e' with z | z
      · rw [z]; exact Nat.le_add_right _ _
      · rw [z]; exact Nat.le_refl _
    exact I1.fpOk hle (I1.hok.fresh hle)
  cases q with
  | @tup a xs ds' h l =>
    cases e
    cases r
    have hq : SqT X.K H1 a xs := SqT.of (x.fh _ _ h)
    obtain ⟨its, rv, p, hz⟩ := I1.tuple hq
    have pt : s1.heap.IsTuple a its.toArray := p
    have hal : a < s1.heap.objs.size := by obtain ⟨_, q, _⟩ := p; exact Heap.lt_size q
    refine enum_begins1 (begins_tuple a its.toArray) pt fun h' he hit hsz hk => wpAny_pyIter_enum he ?_
    have I2 : Inv X pins σ H1 { s1 with heap := h' } := I1.kept (t' := s1.toks) hk
    exact ⟨s1.heap.objs.size + 1, [s1.heap.objs.size + 1, s1.heap.objs.size], _, _, H1, rfl, I2, turn_enumT a (s1.heap.objs.size + 1) s1.heap.objs.size, ⟨⟨.none, he⟩, ⟨_, hit, rfl, rfl⟩, Nat.succ_ne_self _, Nat.ne_of_lt hal, Nat.ne_of_lt (Nat.lt_succ_of_lt hal)⟩, fp2, k F1 H1 _ x (enum_okT (fun F2 H2 s1 s2 => SqT.of (s2 _ _ (s1 _ _ h))) l)⟩
  | @lst a xs ds' h l =>
    cases e
    cases r
    have hq : SqL X.K H1 a xs := SqL.of (x.fh _ _ h)
    obtain ⟨its, rv, p', hz⟩ := I1.list hq
    refine call_enumerate_list p'.isList fun h' he hit hsz hk => wpAny_pyIter_enum he ?_
    have I2 : Inv X pins σ H1 { s1 with heap := h' } := I1.kept (t' := s1.toks) hk
    exact ⟨s1.heap.objs.size + 1, [s1.heap.objs.size + 1, s1.heap.objs.size], _, _, H1, rfl, I2, turn_enum a (s1.heap.objs.size + 1) s1.heap.objs.size, ⟨⟨.none, he⟩, hit, Nat.succ_ne_self _⟩, fp2, k F1 H1 _ x (enum_okL (fun F2 H2 s1 s2 => SqL.of (s2 _ _ (s1 _ _ h))) l)⟩
  | @scr a ns h =>
    cases e
    cases r
    have hq : SqL X.K H1 a (ns.map V.int) := SqL.mono x.fh h
    obtain ⟨its, rv, p', hz⟩ := I1.list hq
    refine call_enumerate_list p'.isList fun h' he hit hsz hk => wpAny_pyIter_enum he ?_
    have I2 : Inv X pins σ H1 { s1 with heap := h' } := I1.kept (t' := s1.toks) hk
    refine ⟨s1.heap.objs.size + 1, [s1.heap.objs.size + 1, s1.heap.objs.size], _, _, H1, rfl, I2, turn_enum a (s1.heap.objs.size + 1) s1.heap.objs.size, ⟨⟨.none, he⟩, hit, Nat.succ_ne_self _⟩, fp2, k F1 H1 _ x (enum_okL (fun F2 H2 s1 s2 => SqL.mono s2 (SqL.mono s1 h)) ?_)⟩
    have go : ∀ ns : List Int, DatL X.K X.mg F1 (ns.map V.int) (ns.map D.int) := fun ns => by
      induction ns with
      | nil => exact .nil
      | cons n ns ih => exact .cons (.int n) ih
    exact go ns
  | _ => cases e
end

/-! ### code that is never come to -/
def eNo : EM := fun _ => .no
def sNo : SM := fun _ => .no
section
variable {X : Cx} {F0 H0 : Hp} {W : WX} {e : Expr}
theorem em_never : PEm X F0 H0 W e eNo := ⟨fun pins s σ H Q I ⟨F, ρ, r, g⟩ => False.elim g⟩
theorem fm_never : PFm X F0 H0 W e eNo := ⟨fun pins s σ H Q I ⟨F, ρ, r, g⟩ => False.elim g⟩
theorem sm_never {st : Stmt} : PSm X F0 H0 W st sNo := ⟨fun pins s σ H D I ⟨F, ρ, r, g⟩ => False.elim g⟩
end
end L2.Pv

set_option Elab.async false
set_option linter.all false
set_option maxRecDepth 100000
set_option maxHeartbeats 4000000
set_option autoImplicit false
/-! Lists of dicts. -/
namespace L2.Pv
open PySem PySem.Spec PyProof.Rows
theorem list_dR {X : Cx} (hc : X.calm = true) : CallR X (.type "list") (fun xs H Q => ∃ p kvs, xs = [V.ref p] ∧ Rd H p (.dK kvs) ∧ ∀ q, H q = none → Q (.ref q) (upd H q (.lst (kvs.map fun kv => kV kv.1)))) := by
  rintro pins s σ H xs us Q I r ⟨p, kvs, rfl, hk, q⟩
  obtain ⟨u, rfl, rx⟩ := vals1 r
  cases rx
  obtain ⟨z, lo, vs, rk, hd⟩ := (show ObjOk X.prog X.w H s.heap p (.dK kvs) from hk.ok I.hok)
  obtain ⟨ep, hat⟩ := hd.dictAt
  have hl : kvs.length = vs.length := Paired.length rk
  refine PySem.W.kdl_call (PySem.W.kdl_dict (knd := mixKind X.prog X.w) (kvs := vs) (ep := ep) lo) (I.ok.hd hc) hat (by rw [← hl]; exact z) fun h' tk acc c keep hS hacc => ?_
  have ml : (kvs.map fun kv => kV kv.1).length = kvs.length := List.length_map _
  have new : ObjOk X.prog X.w (upd H s.heap.objs.size (.lst (kvs.map fun kv => kV kv.1))) h' s.heap.objs.size (.lst (kvs.map fun kv => kV kv.1)) := by
    refine ⟨by rw [ml]; exact z, acc.toList, c, vals_of_at (by have := hacc.1; simp [this, hl]) fun j x w h1 h2 => ?_, ?_⟩
    · obtain ⟨k, y, hky, hi⟩ := hacc.2 j w (by rw [← Array.getElem?_toList]; exact h2)
      have e1 : (kvs.map (·.1))[j]? = some k := by rw [KV.keys rk, List.getElem?_map, hky]; rfl
      rw [List.getElem?_map] at h1 e1
      cases hj : kvs[j]? with
      | none => rw [hj] at h1; cases h1
      | some kv =>
        rw [hj] at h1 e1
        cases h1; cases e1
        exact keyIs_rel hi
    · rw [Array.toArray_toList]; exact hS
  exact ⟨.ref s.heap.objs.size, _, I.laid (t' := tk) keep (Nat.le_refl _) new, rfl, q _ (I.hok.fresh (Nat.le_refl _))⟩
def bListD : List D → Option D
  | [.lst ds] => some (.lst ds)
  | [.tup ds] => some (.lst ds)
  | [.dct false ps] => some (.lst (ps.map (·.1)))
  | _ => none
theorem DatK.keyL {K : PySem.W.Frag} {mg : Str → Option Value} {F : Hp} : ∀ {kvs : List (Key × V)} {ps : List (D × D)}, DatK K mg F kvs ps → DatL K mg F (kvs.map fun kv => kV kv.1) (ps.map (·.1))
  | _, _, .nil => .nil
  | _, _, .cons _ l => .cons (keyD_dat _) l.keyL
section
variable {X : Cx}
theorem cf_listD (hc : X.calm = true) : CallF X (.type "list") bListD := by
  rintro pins s σ H xs us Q I r ⟨F, ds, d, fh, l, e, k⟩
  unfold bListD at e
  split at e
  · exact cf_list pins s σ H xs us Q I r ⟨F, _, d, fh, l, e, k⟩
  · exact cf_list pins s σ H xs us Q I r ⟨F, _, d, fh, l, e, k⟩
  · cases e
    obtain ⟨v, rfl, hx⟩ := l.one
    obtain ⟨a, kvs, rfl, h1, l1⟩ := hx.dctK fh
    exact list_dR hc pins s σ H _ us Q I r ⟨a, kvs, rfl, h1, fun p n => k F _ p ⟨Same.refl F, fh.trans (same_upd n), same_upd n, fun a o e n => by rw [n] at e; cases e⟩ (fh.free n) n ⟨_, upd_same, l1.keyL⟩⟩
  · cases e
end
end L2.Pv

set_option Elab.async false
set_option linter.all false
set_option maxRecDepth 100000
set_option maxHeartbeats 4000000
set_option autoImplicit false
/-! The head: facts, tuples, tables; the end of a law. -/
namespace L2.Pv
open PySem PySem.Spec PyProof.Rows

/-- what is looked at: He's facts and tables, tuples, the values of tables -/
structure HkD where
  n : Nat
  fa : List He.Fa
  fn : List He.DefD
  ts : List He.Tab
  tu : List (Str × List He.Dv)
  tv : List ((PySem.W.Frag → Addr) × List (Str × He.Dv))
def HkD.ev (k : HkD) (K : PySem.W.Frag) : Bool := (k.tu.all fun t => He.tupB K t.1 t.2) && (k.tv.all fun t => He.valsB K (t.1 K) t.2)
def HkD.obsK (k : HkD) (K : PySem.W.Frag) : He.AlT × Bool := (He.obsT k.fa k.fn k.ts K, k.ev K)
def HkD.obsG (k : HkD) (g : Addr → Option Obj) : He.AlT × Bool := k.obsK (He.frG g (He.asD g k.n))
def HkD.val (k : HkD) (w : World) : He.AlT × Bool := (He.valT k.fn k.ts w, true)
def HkD.Says (k : HkD) (w : World) (K : PySem.W.Frag) : Prop := k.obsK K = k.val w
def HkD.hook (k : HkD) : PySem.W.Hook where
  α := He.AlT × Bool
  obs := fun s => k.obsG s.heap.get?
  val := fun w => k.val w
  says := fun w h => ∃ K : PySem.W.Frag, K.In h ∧ k.Says w K
  of := fun _ _ e => ⟨_, He.frG_in, e⟩
  keeps := fun _ _ _ ⟨K, hK, c⟩ q => ⟨K, PySem.W.Frag.In.keeps hK q, c⟩
theorem HkD.obsG_eq (k : HkD) {g : Addr → Option Obj} {s : Shared} (h : ∀ a, g a = s.heap.get? a) : k.obsG g = k.hook.obs s := by
  have e : g = s.heap.get? := funext h
  subst e
  rfl
section
variable {k : HkD} {w : World} {K : PySem.W.Frag} {h : Heap} {mg : Str → Option Value}
theorem HkD.Says.t (c : k.Says w K) : He.SaysT k.fa k.fn k.ts w K := congrArg (fun z : He.AlT × Bool => z.1) c
theorem HkD.Says.d (c : k.Says w K) : He.SaysD k.fa k.fn K := He.SaysT.d c.t
theorem HkD.Says.b (c : k.Says w K) : k.ev K = true := congrArg (fun z : He.AlT × Bool => z.2) c
def dvD : He.Dv → D
  | .int i => .int i
  | .str z => .str z
  | .bl b => .bl b
  | _ => .non
def dvOk : He.Dv → Bool
  | .int _ => true
  | .str _ => true
  | .bl _ => true
  | .non => true
  | _ => false
theorem dv_dat {F : Hp} : ∀ (d : He.Dv), dvOk d = true → Dat K mg F (d.v K) (dvD d)
  | .int i, _ => .int i
  | .str z, _ => .str z
  | .bl b, _ => .bl b
  | .non, _ => .non
theorem dvs_dat {F : Hp} : ∀ (l : List He.Dv), l.all dvOk = true → DatL K mg F (l.map (He.Dv.v K)) (l.map dvD)
  | [], _ => .nil
  | d :: l, e => by
    obtain ⟨e1, e2⟩ := Bool.and_eq_true_iff.mp (show (dvOk d && l.all dvOk) = true from e)
    exact .cons (dv_dat d e1) (dvs_dat l e2)
theorem HkD.Says.tup (c : k.Says w K) (X : K.In h) (G : h.Ns mainGlobals mg) (i j : Nat) {x : Str} {l : List He.Dv} (hi : k.tu[i]? = some (x, l) := by rfl) (hj : k.fa[j]? = some (.glo x) := by rfl) (ok : l.all dvOk = true := by rfl) : GTup K mg x (l.map dvD) := by
  obtain ⟨b1, _⟩ := Bool.and_eq_true_iff.mp c.b
  have b := List.all_eq_true.mp b1 _ (List.mem_of_getElem? hi)
  exact ⟨He.ga K x, _, He.glo_ok X G (He.SaysD.fact c.d j hj), fun H => He.tupB_ok b H, fun F => dvs_dat l ok⟩
theorem exF_of (X : K.In h) (G : h.Ns mainGlobals mg) {x : Str} (c : (He.Fa.exc x).ok K = true) (d : (He.Fa.glo x).ok K = true) : ExF K mg x := by
  obtain ⟨a, b, e, f⟩ := He.exc_ok c
  exact ⟨He.glo_ok X G d, a, b, e, f⟩
end
theorem law_promise {K : PySem.W.Frag} {mg : Str → Option Value} {f : List D → R D} {H : Hp} {a : Addr} {ns : List Int} (hS : SqL K H a (ns.map V.int)) (e : f [.scr ns] = .ok (.bl true)) {Q : VK} {E : XK} (q : ∀ H', Q (.bl true) H') : spM K mg 1 f [.ref a] H Q E := by
  refine ⟨H, [.scr ns], Same.refl H, .cons (.scr hS) .nil, rfl, ?_⟩
  rw [e]
  intro F' H' v _ hv
  cases hv
  exact q H'

theorem HkD.Says.mem {k : HkD} {w : World} {K : PySem.W.Frag} (c : k.Says w K) {f : He.Fa} (h : f ∈ k.fa) : f.ok K = true := by
  obtain ⟨i, hi⟩ := List.getElem?_of_mem h
  exact He.SaysD.fact c.d i hi
/-- the facts of the exceptions' classes -/
def excFa (cs : List Str) (sub : Str → Str → Bool) : List He.Fa := (cs.map He.Fa.glo) ++ ((cs.map He.Fa.exc) ++ cs.flatMap fun c => cs.map fun h => He.Fa.exm c h (sub c h))
section
variable {k : HkD} {w : World} {K : PySem.W.Frag} {h : Heap} {mg : Str → Option Value} {cs : List Str} {sub : Str → Str → Bool}
theorem HkD.Says.exF (c : k.Says w K) (X : K.In h) (G : h.Ns mainGlobals mg) (s : ∀ f, f ∈ excFa cs sub → f ∈ k.fa) {x : Str} (hx : x ∈ cs) : ExF K mg x :=
  exF_of X G (c.mem (s _ (List.mem_append_right _ (List.mem_append_left _ (List.mem_map_of_mem hx))))) (c.mem (s _ (List.mem_append_left _ (List.mem_map_of_mem hx))))
theorem HkD.Says.subOk (c : k.Says w K) (X : K.In h) (G : h.Ns mainGlobals mg) (s : ∀ f, f ∈ excFa cs sub → f ∈ k.fa) : SubOk K mg sub cs := by
  intro x y C D hx hy eC eD
  have gx := (c.exF X G s hx).gC
  have gy := (c.exF X G s hy).gC
  rw [gx] at eC; rw [gy] at eD
  cases eC; cases eD
  exact He.exm_ok (c.mem (s _ (List.mem_append_right _ (List.mem_append_right _ (List.mem_flatMap.mpr ⟨x, hx, List.mem_map_of_mem hy⟩)))))
end
theorem walk_pv {l : PySem.W.OpenLaw} {n k : Nat} {q : Program} {loose : List Str} {XP : (Str → Option Value) → Heap → Prop} {YP : World → Heap → Prop} {d : DefRec} {x : Str} {f : List D → R D}
    (hn : l.most = some n) (hn2 : n ≤ sizeLine) (hdf : d.params.defaults = []) (hr : Room k callerA) (hf : ∀ ns : List Int, ns.length ≤ n → f [.scr ns] = .ok (.bl true))
    (F : ∀ (w : World) (mg : Str → Option Value) (fa : Addr) (h : Heap), YP w h → h.Ns mainGlobals mg → mg d.name = some (.ref fa) →
      ∃ (K : PySem.W.Frag) (fd : FuncData), K.In h ∧ (∀ (s : Shared) (u : Value), BindsTo s fd ⟨[u], []⟩ [(x, u)]) ∧ ∀ base : Heap, K.In base → base.Ns mainGlobals mg → FnOk l.prog w K mg base (L2.CX l.prog w) k fa fd [x] (spM K mg 1 f)) :
    PySem.W.WalkO q loose XP YP l.row.toRowW d [] (fun f vs => PySem.call f vs) := by
  refine Att.attach_call hn hdf fun w s₀ s₁ mg mb fa o pm cd doc a vs ns G Y ho hd hcd hmg hobj hints hlen hg => ?_
  obtain ⟨K, fd, KX, hb, hF⟩ := F w mg fa _ Y G.T.g hmg
  exact law_call KX G.T.g G.T.b G.T.builtins G.T.nolimit hg hobj hints (Nat.le_trans hlen hn2) hr hF hb (fun H _ hS => law_promise hS (hf ns hlen) fun _ => rfl) fun H e s' ⟨_, _, _, _, _, _, _, _, _, _, _, _, z⟩ => z
end L2.Pv

set_option Elab.async false
set_option linter.all false
set_option maxRecDepth 100000
set_option maxHeartbeats 4000000
set_option autoImplicit false
/-! Mirrors, worked out. -/
namespace L2.Pv
open PySem PySem.Spec PyProof.Rows

/-- by a bool -/
def D.sel {α : Type} (d : D) (a b : R α) : R α := match d with
  | .bl true => a
  | .bl false => b
  | _ => .no
@[simp] theorem sel_bl {α : Type} (c : Bool) (a b : R α) : D.sel (.bl c) a b = if c then a else b := by cases c <;> rfl
section
variable (ρ : Env) (d : D) (ma mb mc : EM) (p q : TM) (m n : SM) (i j : Nat)
@[simp] theorem x_K : eK d ρ = .ok d := nr rfl
@[simp] theorem slAt_0 (s : Option Sl) (r : Env) : slAt (s :: r) 0 = s := nr rfl
@[simp] theorem slAt_s (s : Option Sl) (r : Env) (n : Nat) : slAt (s :: r) (n + 1) = slAt r n := nr rfl
@[simp] theorem x_V : eV i ρ = match slAt ρ i with
  | some (.val d) => .ok d
  | _ => .no := nr rfl
@[simp] theorem x_B : eB i ρ = match slAt ρ i with
  | some (.val d) => .ok d
  | some (.own d) => .ok d
  | _ => .no := nr rfl
@[simp] theorem x_Op (g : D → D → Option D) : eOp g ma mb ρ = (ma ρ).bind fun x => (mb ρ).bind fun y => R.of (g x y) := nr rfl
@[simp] theorem x_tOf : tOf ma ρ = (ma ρ).bind D.asB := nr rfl
@[simp] theorem asB_bl (b : Bool) : D.asB (.bl b) = .ok b := nr rfl
@[simp] theorem x_tTru : tTru ma ρ = (ma ρ).bind fun d => R.of d.truth := nr rfl
@[simp] theorem x_chain (g g' : D → D → Option D) : eChain g g' ma mb mc ρ = (ma ρ).bind fun x => (mb ρ).bind fun y => (R.of (g x y)).bind fun z => z.sel ((mc ρ).bind fun w => R.of (g' y w)) (.ok (.bl false)) := nr rfl
@[simp] theorem x_tAnd : tAndM p q ρ = (p ρ).bind fun b => if b then q ρ else .ok false := nr rfl
@[simp] theorem x_tOr : tOrM p q ρ = (p ρ).bind fun b => if b then .ok true else q ρ := nr rfl
@[simp] theorem x_tNot : tNotM p ρ = (p ρ).bind fun b => .ok (!b) := nr rfl
@[simp] theorem x_And : eAnd ma mb ρ = (ma ρ).bind fun x => x.sel (mb ρ) (.ok (.bl false)) := nr rfl
@[simp] theorem x_Or : eOr ma mb ρ = (ma ρ).bind fun x => x.sel (.ok (.bl true)) (mb ρ) := by
  show R.bind _ _ = _
  congr 1
  funext x
  cases x with
  | bl b => cases b <;> rfl
  | _ => rfl
@[simp] theorem x_Not : eNot ma ρ = (ma ρ).bind fun x => (R.of x.truth).bind fun b => .ok (.bl (!b)) := nr rfl
@[simp] theorem x_Neg : eNeg ma ρ = (ma ρ).bind fun x => match x with
  | .int i => .ok (.int (-i))
  | _ => .no := nr rfl
@[simp] theorem x_If : eIf p ma mb ρ = (p ρ).bind fun b => if b then ma ρ else mb ρ := nr rfl
@[simp] theorem x_all0 : aAll [] ρ = .ok [] := nr rfl
@[simp] theorem x_all1 (ms : List EM) : aAll (ma :: ms) ρ = (ma ρ).bind fun d => (aAll ms ρ).bind fun ds => .ok (d :: ds) := nr rfl
@[simp] theorem x_Tup (ms : List EM) : eTup ms ρ = (aAll ms ρ).bind fun ds => .ok (.tup ds) := nr rfl
@[simp] theorem x_Lst (ms : List EM) : eLst ms ρ = (aAll ms ρ).bind fun ds => .ok (.lst ds) := nr rfl
@[simp] theorem x_oInt0 : oInt none ρ = .ok none := nr rfl
@[simp] theorem x_oInt1 : oInt (some ma) ρ = (ma ρ).bind fun d => match d with
  | .int i => .ok (some i)
  | _ => .no := nr rfl
@[simp] theorem x_Sl (lo hi : Option EM) : eSl ma lo hi ρ = (ma ρ).bind fun x => (oInt lo ρ).bind fun l => (oInt hi ρ).bind fun u => R.of (D.slice x l u) := nr rfl
@[simp] theorem x_Call (f : List D → R D) (ms : List EM) : eCall f ms ρ = (aAll ms ρ).bind f := nr rfl
@[simp] theorem x_Bf (g : List D → Option D) (ms : List EM) : eBf g ms ρ = (aAll ms ρ).bind fun ds => R.of (g ds) := nr rfl
@[simp] theorem x_Isi (U : String) : eIsi U ma ρ = (ma ρ).bind fun d => (R.of d.tyN).bind fun T => .ok (.bl (isTy T U)) := nr rfl
@[simp] theorem x_Met (T : D → Bool) (g : D → List D → Option D) (ms : List EM) : eMet T g ma ms ρ = (ma ρ).bind fun x => if T x then (aAll ms ρ).bind fun ds => R.of (g x ds) else .no := nr rfl
@[simp] theorem x_iV : iV ma ρ = (ma ρ).bind fun d => R.of d.items := nr rfl
@[simp] theorem x_iBf (g : List D → Option (List D)) (ms : List EM) : iBf g ms ρ = (aAll ms ρ).bind fun ds => R.of (g ds) := nr rfl
@[simp] theorem x_iEn : iEn ma ρ = (ma ρ).bind fun d => R.of (enumD d) := nr rfl
@[simp] theorem x_iK (ds : List D) : iK ds ρ = .ok ds := nr rfl
@[simp] theorem x_inK (neg : Bool) (ds : List D) : eInK neg ds ma ρ = (ma ρ).bind fun x => if x.flat && ds.all D.flat then .ok (.bl (if neg then !x.inb ds else x.inb ds)) else .no := nr rfl
@[simp] theorem x_lrng : eLrng ma ρ = (ma ρ).bind fun d => match d with
  | .int j => if decide (0 ≤ j) && decide (j ≤ 1000000) then .ok (.lst ((List.range j.toNat).map fun i : Nat => .int i)) else .no
  | _ => .no := nr rfl
@[simp] theorem x_one (i : Nat) : gOne i ρ d = some (ρ.set i (some (.val d))) := nr rfl
@[simp] theorem x_tupM (is : List Nat) (ds : List D) : gTupM is ρ (.tup ds) = if ds.length = is.length then some (setAll ρ is ds) else none := nr rfl
@[simp] theorem x_setAll0 (ds : List D) : setAll ρ [] ds = ρ := by cases ds <;> rfl
@[simp] theorem x_setAll1 (i : Nat) (is : List Nat) (d : D) (ds : List D) : setAll ρ (i :: is) (d :: ds) = setAll (ρ.set i (some (.val d))) is ds := nr rfl
@[simp] theorem x_wipe0 : wipeE ρ [] = ρ := nr rfl
@[simp] theorem x_wipe1 (v : Nat) (vs : List Nat) : wipeE ρ (v :: vs) = (wipeE ρ vs).set v none := nr rfl
@[simp] theorem x_Yes : pYes ρ = .ok true := nr rfl
@[simp] theorem x_Lc (own : List Nat) (gm : GM) (mi : AM) : eLc own gm mi p ma ρ = (mi ρ).bind fun ds => if ds.length ≤ lim then (compD gm p ma (wipeE ρ own) ds).bind fun es => .ok (.lst es) else .no := nr rfl
@[simp] theorem x_seq : sSeq m n ρ = (m ρ).seq n := nr rfl
@[simp] theorem seq_nx : (Out.nx ρ).seq n = n ρ := nr rfl
@[simp] theorem seq_rt : (Out.rt d).seq n = .rt d := nr rfl
@[simp] theorem seq_bk : (Out.bk ρ).seq n = .bk ρ := nr rfl
@[simp] theorem seq_ct : (Out.ct ρ).seq n = .ct ρ := nr rfl
@[simp] theorem seq_rs (c : Str) : (Out.rs c ρ).seq n = .rs c ρ := nr rfl
@[simp] theorem seq_no : Out.no.seq n = .no := nr rfl
@[simp] theorem x_fgs0 : fgs [] ρ = ρ := nr rfl
@[simp] theorem x_fgs1 (v : Nat) (vs : List Nat) : fgs (v :: vs) ρ = fgs vs (ρ.set v none) := nr rfl
@[simp] theorem x_fz : fz i ρ = match ρ[i]? with
  | some (some (.own d)) => ρ.set i (some (.val d))
  | _ => ρ := nr rfl
@[simp] theorem x_sFz : sFz i m ρ = m (fz i ρ) := nr rfl
@[simp] theorem x_ret : sRet ma ρ = (ma ρ).out ρ .rt := nr rfl
@[simp] theorem x_expr : sExpr ma ρ = (ma ρ).out ρ fun _ => .nx ρ := nr rfl
@[simp] theorem x_sif : sIf p m n ρ = (p ρ).out ρ fun b => if b then m ρ else n ρ := nr rfl
@[simp] theorem x_set : sSet i ma ρ = (ma ρ).out ρ fun d => .nx (ρ.set i (some (.val d))) := nr rfl
@[simp] theorem x_setF : sSetF i ma ρ = (ma ρ).out ρ fun d => .nx (ρ.set i (some (.own d))) := nr rfl
@[simp] theorem x_asg (gm : GM) : sAsg gm ma ρ = (ma ρ).out ρ fun d => match gm ρ d with
  | some ρ1 => .nx ρ1
  | none => .no := nr rfl
@[simp] theorem x_sFor (junk : List Nat) (gm : GM) (mi : AM) (body : SM) : sFor junk gm mi body ρ = (mi ρ).out ρ fun ds => forD junk gm body ds (fgs junk ρ) := nr rfl
@[simp] theorem x_while (k : Nat) (junk : List Nat) (body : SM) : sWhile k junk p body ρ = whileD junk p body k (fgs junk ρ) := nr rfl
@[simp] theorem x_App : sApp i ma ρ = match slAt ρ i with
  | some (.own (.lst ds)) => (ma ρ).out ρ fun d => if ds.length < lim then .nx (ρ.set i (some (.own (.lst (ds ++ [d]))))) else .no
  | _ => .no := nr rfl
@[simp] theorem x_Ext : sExt i ma ρ = match slAt ρ i with
  | some (.own (.lst ds)) => (ma ρ).out ρ fun d => match d with
    | .lst es => if ds.length + es.length ≤ lim then .nx (ρ.set i (some (.own (.lst (ds ++ es))))) else .no
    | _ => .no
  | _ => .no := nr rfl
@[simp] theorem x_Aug (g : D → D → Option D) : sAug i g ma ρ = match slAt ρ i with
  | some (.val x) => (ma ρ).out ρ fun y => match g x y with
    | some z => .nx (ρ.set i (some (.val z)))
    | none => .no
  | _ => .no := nr rfl
@[simp] theorem x_par2 : sPar2 i j ma mb ρ = (ma ρ).out ρ fun a => (mb ρ).out ρ fun b => .nx ((ρ.set i (some (.val a))).set j (some (.val b))) := by
  show ((ma ρ).bind fun d => ((mb ρ).bind fun e => R.ok [e]).bind fun ds => R.ok (d :: ds)).out ρ _ = _
  cases ma ρ <;> cases mb ρ <;> rfl
@[simp] theorem x_pairs0 : pairsM [] ρ = .ok [] := nr rfl
@[simp] theorem x_pairs1 (k v : EM) (r : List (EM × EM)) : pairsM ((k, v) :: r) ρ = (k ρ).bind fun x => (v ρ).bind fun y => (pairsM r ρ).bind fun ps => if D.keyOk false x then .ok ((x, y) :: ps) else .no := nr rfl
@[simp] theorem keyOk_str (x : Str) : D.keyOk false (.str x) = true := nr rfl
@[simp] theorem keyOk_int (x : Int) : D.keyOk false (.int x) = true := nr rfl
@[simp] theorem x_disp (ps : List (EM × EM)) : eDisp ps ρ = (pairsM ps ρ).bind fun ps => .ok (.dct false (mergeD ps)) := nr rfl
@[simp] theorem x_get1 : eGet1 ma mb ρ = (ma ρ).bind fun d => match d with
  | .dct t ps => (mb ρ).bind fun k => if D.keyOk t k then .ok ((D.find k ps).getD .non) else .no
  | _ => .no := nr rfl
@[simp] theorem x_get2 : eGet2 ma mb mc ρ = (ma ρ).bind fun d => match d with
  | .dct t ps => (mb ρ).bind fun k => (mc ρ).bind fun x => if D.keyOk t k then .ok ((D.find k ps).getD x) else .no
  | _ => .no := nr rfl
@[simp] theorem x_sub : sSub i ma mb ρ = (mb ρ).out ρ fun v => match slAt ρ i with
  | some (.own o) => (ma ρ).out ρ fun k => match D.setAt o k v with
    | some o' => .nx (ρ.set i (some (.own o')))
    | none => .no
  | _ => .no := nr rfl
@[simp] theorem x_no : eNo ρ = .no := nr rfl
end
theorem runM_rt {n : Nat} {m : SM} {ds : List D} {d : D} (h : m (startE n ds) = .rt d) : runM n m ds = .ok d := by unfold runM; rw [h]
theorem runM_nx {n : Nat} {m : SM} {ds : List D} {ρ : Env} (h : m (startE n ds) = .nx ρ) : runM n m ds = .ok .non := by unfold runM; rw [h]
theorem runM_rs {n : Nat} {m : SM} {ds : List D} {ρ : Env} {c : Str} (h : m (startE n ds) = .rs c ρ) : runM n m ds = .ex c := by unfold runM; rw [h]
end L2.Pv

set_option Elab.async false
set_option linter.all false
set_option maxRecDepth 100000
set_option maxHeartbeats 4000000
set_option autoImplicit false
/-! Data worked out; floors. -/
namespace L2.Pv
open PySem PySem.Spec PyProof.Rows

/-! ### operations on known kinds -/
section
variable (i j : Int) (a b : Bool) (x y : Str) (ds es : List D)
@[simp] theorem d_add : D.add (.int i) (.int j) = some (.int (i + j)) := nr rfl
@[simp] theorem d_sub : D.sub (.int i) (.int j) = some (.int (i - j)) := nr rfl
theorem d_mul (h : smallI i = true ∨ smallI j = true) : D.mul (.int i) (.int j) = some (.int (i * j)) := by
  show (if (smallI i || smallI j) = true then _ else _) = _
  rw [if_pos (by rcases h with h | h <;> simp [h])]
theorem d_mod (h : 0 < j) : D.mod (.int i) (.int j) = some (.int (i % j)) := by show (if 0 < j then _ else _) = _; rw [if_pos h]
theorem d_fdiv (h : 0 < j) (h2 : j < 1073741824) : D.fdiv (.int i) (.int j) = some (.int (i / j)) := by
  show (if (decide (0 < j) && decide (j < 1073741824)) = true then _ else _) = _
  rw [if_pos (by simp [h, h2])]
@[simp] theorem d_lt : D.lt (.int i) (.int j) = some (.bl (decide (i < j))) := nr rfl
@[simp] theorem d_le : D.le (.int i) (.int j) = some (.bl (decide (i ≤ j))) := nr rfl
@[simp] theorem d_gt : D.gt (.int i) (.int j) = some (.bl (decide (j < i))) := nr rfl
@[simp] theorem d_ge : D.ge (.int i) (.int j) = some (.bl (decide (j ≤ i))) := nr rfl
@[simp] theorem d_addI : D.addI (.int i) (.int j) = some (.int (i + j)) := nr rfl
theorem eqv_int : PyData.eqv (.int i) (.int j) = decide (i = j) := by
  unfold PyData.eqv; rfl
theorem eqv_str : PyData.eqv (.str x) (.str y) = decide (x = y) := by
  unfold PyData.eqv; rfl
@[simp] theorem eqb_int : D.eqb (.int i) (.int j) = decide (i = j) := eqv_int i j
@[simp] theorem eqb_str : D.eqb (.str x) (.str y) = decide (x = y) := eqv_str x y
@[simp] theorem eqb_strint : D.eqb (.str x) (.int j) = false := by unfold D.eqb D.py PyData.eqv; rfl
@[simp] theorem eqb_intstr : D.eqb (.int j) (.str x) = false := by unfold D.eqb D.py PyData.eqv; rfl
@[simp] theorem eqb_nonint : D.eqb .non (.int j) = false := by unfold D.eqb D.py PyData.eqv; rfl
@[simp] theorem d_eq_int : D.eq (.int i) (.int j) = some (.bl (decide (i = j))) := by
  show some (D.bl (D.eqb _ _)) = _; rw [eqb_int]
theorem shp_str (h : PyData.strOk x = true) : SeqAt.shaped (D.str x).py = true := by unfold SeqAt.shaped D.py PyData.canLay0 PyData.depth; rw [h]; rfl
@[simp] theorem ok_lit (s : String) : PyData.strOk (Str.ofString s) = true := by
  unfold PyData.strOk
  rw [Str.ofString_eq_toList, Array.all_eq_true]
  intro i hi
  simp only [List.getElem_toArray, List.getElem_map]
  refine decide_eq_true ?_
  have := (s.toList[i]'(by simpa using hi)).valid
  rcases this with h | h
  · exact Nat.lt_trans h (by decide)
  · exact h.2
@[simp] theorem lit_inj (s t : String) : Str.ofString s = Str.ofString t ↔ s = t := by
  constructor
  · intro h
    rw [Str.ofString_eq_toList, Str.ofString_eq_toList] at h
    injection h with h
    have h := congrArg Array.toList h
    simp only [List.toList_toArray] at h
    exact String.ext ((List.map_inj_right fun a b e => Char.toNat_inj.mp e).mp h)
  · intro h; rw [h]
@[simp] theorem d_eq_str (h : PyData.strOk x = true) (h2 : PyData.strOk y = true) : D.eq (.str x) (.str y) = some (.bl (decide (x = y))) := by
  unfold D.eq; rw [shp_str x h, shp_str y h2, eqb_str]; rfl
@[simp] theorem d_ne_int : D.ne (.int i) (.int j) = some (.bl (!decide (i = j))) := by
  show some (D.bl (!D.eqb _ _)) = _; rw [eqb_int]
@[simp] theorem d_ne_str (h : PyData.strOk x = true) (h2 : PyData.strOk y = true) : D.ne (.str x) (.str y) = some (.bl (!decide (x = y))) := by
  unfold D.ne; rw [shp_str x h, shp_str y h2, eqb_str]; rfl
@[simp] theorem flat_int : D.flat (.int i) = true := nr rfl
@[simp] theorem flat_str : D.flat (.str x) = true := nr rfl
@[simp] theorem flat_bl : D.flat (.bl a) = true := nr rfl
@[simp] theorem flat_non : D.flat .non = true := nr rfl
@[simp] theorem d_isIn_t (d : D) : D.isIn d (.tup ds) = if d.flat && ds.all D.flat then some (.bl (d.inb ds)) else none := nr rfl
@[simp] theorem inb_nil (d : D) : D.inb d [] = false := nr rfl
@[simp] theorem inb_cons (d e : D) : D.inb d (e :: ds) = (e.eqb d || d.inb ds) := nr rfl
@[simp] theorem d_isN_int : D.isN (.int i) .non = some (.bl false) := nr rfl
@[simp] theorem d_isN_non : D.isN .non .non = some (.bl true) := nr rfl
@[simp] theorem d_isNn_int : D.isNn (.int i) .non = some (.bl true) := nr rfl
@[simp] theorem d_isNn_non : D.isNn .non .non = some (.bl false) := nr rfl
@[simp] theorem d_len_l : D.len (.lst ds) = some (.int ds.length) := nr rfl
@[simp] theorem d_len_t : D.len (.tup ds) = some (.int ds.length) := nr rfl
@[simp] theorem b_len (d : D) : bLen [d] = d.len := nr rfl
@[simp] theorem d_truth_bl : D.truth (.bl a) = some a := nr rfl
@[simp] theorem d_truth_l : D.truth (.lst ds) = some (!ds.isEmpty) := nr rfl
@[simp] theorem d_truth_t : D.truth (.tup ds) = some (!ds.isEmpty) := nr rfl
@[simp] theorem isStr_str : D.isStr (.str x) = true := nr rfl
@[simp] theorem isLst_lst : D.isLst (.lst ds) = true := nr rfl
@[simp] theorem d_items_l : D.items (.lst ds) = some ds := nr rfl
@[simp] theorem d_items_t : D.items (.tup ds) = some ds := nr rfl
end

/-! ### flat enough data -/
def D.sh : Nat → D → Bool
  | _, .non => true
  | _, .bl _ => true
  | _, .int _ => true
  | _, .str x => PyData.strOk x
  | k + 1, .tup ds => ds.all (D.sh k)
  | k + 1, .lst ds => ds.all (D.sh k)
  | _, _ => false
mutual
theorem sh_py : ∀ (k : Nat) (d : D), D.sh k d = true → d.py.canLay0 = true ∧ d.py.depth ≤ k
  | k, .non, _ => by simp [D.py, PyData.canLay0, PyData.depth]
  | k, .bl _, _ => by simp [D.py, PyData.canLay0, PyData.depth]
  | k, .int _, _ => by simp [D.py, PyData.canLay0, PyData.depth]
  | k, .str x, h => by cases k <;> (simp only [D.sh] at h; simp [D.py, PyData.canLay0, PyData.depth, h])
  | 0, .tup ds, h => by cases h
  | 0, .lst ds, h => by cases h
  | k + 1, .tup ds, h => by
    have := sh_pys k ds h
    simp only [D.py, PyData.canLay0, PyData.depth]
    exact ⟨this.1, by omega⟩
  | k + 1, .lst ds, h => by
    have := sh_pys k ds h
    simp only [D.py, PyData.canLay0, PyData.depth]
    exact ⟨this.1, by omega⟩
  | k, .dct _ _, h => by cases k <;> cases h
  | k, .obj _ _, h => by cases k <;> cases h
  | k, .scr _, h => by cases k <;> cases h
theorem sh_pys : ∀ (k : Nat) (ds : List D), ds.all (D.sh k) = true → PyData.canLayAll0 (D.pys ds) = true ∧ PyData.depthAll (D.pys ds) ≤ k
  | k, [], _ => by simp [D.pys, PyData.canLayAll0, PyData.depthAll]
  | k, d :: ds, h => by
    obtain ⟨h1, h2⟩ := Bool.and_eq_true_iff.mp (show (D.sh k d && ds.all (D.sh k)) = true from h)
    have a := sh_py k d h1
    have b := sh_pys k ds h2
    simp only [D.pys, PyData.canLayAll0, PyData.depthAll, a.1, b.1]
    refine ⟨rfl, ?_⟩
    omega
end
theorem sh_shaped {k : Nat} {d : D} (h : D.sh k d = true) (hk : k ≤ 64 := by decide) : SeqAt.shaped d.py = true := by
  obtain ⟨a, b⟩ := sh_py k d h
  unfold SeqAt.shaped
  rw [a]
  simp
  omega
theorem d_eq_self {k : Nat} {d : D} (h : D.sh k d = true) (hk : k ≤ 64 := by decide) : D.eq d d = some (.bl true) := by
  have s := sh_shaped h hk
  unfold D.eq
  rw [s]
  show some (D.bl (D.eqb d d)) = _
  rw [show D.eqb d d = true from SeqAt.eqv_refl _ (sh_py k d h).1]
theorem d_ne_self {k : Nat} {d : D} (h : D.sh k d = true) (hk : k ≤ 64 := by decide) : D.ne d d = some (.bl false) := by
  have s := sh_shaped h hk
  unfold D.ne
  rw [s]
  show some (D.bl (!D.eqb d d)) = _
  rw [show D.eqb d d = true from SeqAt.eqv_refl _ (sh_py k d h).1]
  rfl
mutual
/-- data of ints, texts, None, tuples and lists alone -/
def D.cl : D → Bool
  | .non => true
  | .int _ => true
  | .str _ => true
  | .tup ds => D.cls ds
  | .lst ds => D.cls ds
  | _ => false
def D.cls : List D → Bool
  | [] => true
  | d :: ds => d.cl && D.cls ds
end
mutual
theorem eqb_cl : ∀ (d e : D), d.cl = true → e.cl = true → (PyData.eqv d.py e.py = true ↔ d = e)
  | .non, e, _, h => by cases e <;> simp [D.py, PyData.eqv, D.cl] at h ⊢
  | .int i, e, _, h => by cases e <;> simp [D.py, PyData.eqv, D.cl] at h ⊢
  | .str x, e, _, h => by cases e <;> simp [D.py, PyData.eqv, D.cl] at h ⊢
  | .tup ds, e, g, h => by
    cases e with
    | tup es =>
      have := eqbs_cl ds es (by simpa [D.cl] using g) (by simpa [D.cl] using h)
      simp only [D.py, PyData.eqv, this, D.tup.injEq]
    | _ => simp [D.py, PyData.eqv, D.cl] at h ⊢
  | .lst ds, e, g, h => by
    cases e with
    | lst es =>
      have := eqbs_cl ds es (by simpa [D.cl] using g) (by simpa [D.cl] using h)
      simp only [D.py, PyData.eqv, this, D.lst.injEq]
    | _ => simp [D.py, PyData.eqv, D.cl] at h ⊢
  | .bl _, _, g, _ => by simp [D.cl] at g
  | .dct _ _, _, g, _ => by simp [D.cl] at g
  | .obj _ _, _, g, _ => by simp [D.cl] at g
  | .scr _, _, g, _ => by simp [D.cl] at g
theorem eqbs_cl : ∀ (ds es : List D), D.cls ds = true → D.cls es = true → (PyData.eqvAll (D.pys ds) (D.pys es) = true ↔ ds = es)
  | [], [], _, _ => by simp [D.pys, PyData.eqvAll]
  | [], e :: es, _, _ => by simp [D.pys, PyData.eqvAll]
  | d :: ds, [], _, _ => by simp [D.pys, PyData.eqvAll]
  | d :: ds, e :: es, g, h => by
    simp only [D.cls, Bool.and_eq_true] at g h
    have a := eqb_cl d e g.1 h.1
    have b := eqbs_cl ds es g.2 h.2
    simp only [D.pys, PyData.eqvAll, Bool.and_eq_true, a, b, List.cons.injEq]
end
theorem d_eq_cl {k j : Nat} {d e : D} (hd : d.cl = true) (he : e.cl = true) (sd : D.sh k d = true) (se : D.sh j e = true) (hk : k ≤ 64 := by decide) (hj : j ≤ 64 := by decide) {p : Prop} [Decidable p] (h : d = e ↔ p) : D.eq d e = some (.bl (decide p)) := by
  unfold D.eq D.eqb
  rw [sh_shaped sd hk, sh_shaped se hj]
  have : PyData.eqv d.py e.py = decide p := by
    rw [Bool.eq_iff_iff, eqb_cl d e hd he, h, decide_eq_true_eq]
  rw [this]; rfl
theorem d_ne_cl {k j : Nat} {d e : D} (hd : d.cl = true) (he : e.cl = true) (sd : D.sh k d = true) (se : D.sh j e = true) (hk : k ≤ 64 := by decide) (hj : j ≤ 64 := by decide) {p : Prop} [Decidable p] (h : d = e ↔ p) : D.ne d e = some (.bl (!decide p)) := by
  unfold D.ne D.eqb
  rw [sh_shaped sd hk, sh_shaped se hj]
  have : PyData.eqv d.py e.py = decide p := by
    rw [Bool.eq_iff_iff, eqb_cl d e hd he, h, decide_eq_true_eq]
  rw [this]; rfl
def nats (l : List Nat) : List D := l.map fun n : Nat => D.int (n : Int)
theorem nats_sh (k : Nat) (l : List Nat) : (nats l).all (D.sh k) = true := by
  unfold nats
  rw [List.all_map, List.all_eq_true]
  intro n _
  cases k <;> rfl
theorem nats_app (l m : List Nat) : nats (l ++ m) = nats l ++ nats m := List.map_append
@[simp] theorem nats_nil : nats [] = [] := nr rfl
@[simp] theorem nats_cons (n : Nat) (l : List Nat) : nats (n :: l) = .int n :: nats l := nr rfl
@[simp] theorem nats_len (l : List Nat) : (nats l).length = l.length := List.length_map _
theorem nats_get {l : List Nat} {i n : Nat} (h : l[i]? = some n) : (nats l)[i]? = some (.int n) := by unfold nats; rw [List.getElem?_map, h]; rfl
@[simp] theorem inb_ints (c : Nat) : ∀ l : List Nat, D.inb (.int c) (nats l) = decide (c ∈ l)
  | [] => rfl
  | n :: l => by
    have : ((n : Int) = c) ↔ (c = n) := by omega
    show D.inb _ (D.int n :: nats l) = _
    simp [inb_ints c l, this]
@[simp] theorem isIn_ints (c : Nat) (l : List Nat) : D.isIn (.int c) (.lst (nats l)) = some (.bl (decide (c ∈ l))) := by
  show (if (SeqAt.shaped (D.int (c : Int)).py && SeqAt.shaped (D.lst (nats l)).py) = true then _ else _) = _
  rw [sh_shaped (k := 1) (d := .lst (nats l)) (nats_sh 0 l), if_pos, inb_ints]
  rw [sh_shaped (k := 0) (d := .int (c : Int)) rfl]; rfl
@[simp] theorem notIn_ints (c : Nat) (l : List Nat) : D.notIn (.int c) (.lst (nats l)) = some (.bl (!decide (c ∈ l))) := by
  unfold D.notIn; rw [isIn_ints]

theorem lim100 : 100 < lim := by decide
theorem le_lim {n : Nat} (h : n ≤ 1000) : n ≤ lim := Nat.le_trans h (by decide)
theorem lt_lim {n : Nat} (h : n ≤ 1000) : n < lim := Nat.lt_of_le_of_lt h (by decide)

/-! ### places -/
theorem ixN_nat {n k : Nat} (h : k < n) : ixN n (k : Int) = some k := by
  unfold ixN; rw [if_pos (by omega), if_pos (by omega)]; simp
theorem atI_nat {α : Type} {xs : List α} {k : Nat} {x : α} (h : xs[k]? = some x) : atI xs (k : Int) = some x := by
  have hk := (List.getElem?_eq_some_iff.mp h).1
  unfold atI; rw [ixN_nat hk]; exact h
theorem idx_t {ds : List D} {k : Nat} {d : D} (h : ds[k]? = some d) : D.idx (.tup ds) (.int (k : Int)) = some d := atI_nat h
theorem idx_l {ds : List D} {k : Nat} {d : D} (h : ds[k]? = some d) : D.idx (.lst ds) (.int (k : Int)) = some d := atI_nat h
@[simp] theorem idx_t0 (d : D) (ds : List D) : D.idx (.tup (d :: ds)) (.int 0) = some d := idx_t (k := 0) rfl
@[simp] theorem idx_t1 (d e : D) (ds : List D) : D.idx (.tup (d :: e :: ds)) (.int 1) = some e := idx_t (k := 1) rfl
@[simp] theorem idx_t2 (d e f : D) (ds : List D) : D.idx (.tup (d :: e :: f :: ds)) (.int 2) = some f := idx_t (k := 2) rfl
@[simp] theorem idx_t3 (d e f g : D) (ds : List D) : D.idx (.tup (d :: e :: f :: g :: ds)) (.int 3) = some g := idx_t (k := 3) rfl
@[simp] theorem idx_l0 (d : D) (ds : List D) : D.idx (.lst (d :: ds)) (.int 0) = some d := idx_l (k := 0) rfl
@[simp] theorem idx_l1 (d e : D) (ds : List D) : D.idx (.lst (d :: e :: ds)) (.int 1) = some e := idx_l (k := 1) rfl

/-! ### comprehensions, loops -/
theorem compD_fm {α : Type} {gm : GM} {p : TM} {me : EM} {ρ : Env} (enc : α → D) (q : α → Bool) (g : α → D) : ∀ xs : List α, (∀ x ∈ xs, ∃ ρ1, gm ρ (enc x) = some ρ1 ∧ p ρ1 = .ok (q x) ∧ (q x = true → me ρ1 = .ok (g x))) → compD gm p me ρ (xs.map enc) = .ok ((xs.filter q).map g)
  | [], _ => rfl
  | x :: xs, h => by
    obtain ⟨ρ1, e1, e2, e3⟩ := h x List.mem_cons_self
    have ih := compD_fm enc q g xs fun y hy => h y (List.mem_cons_of_mem _ hy)
    show (R.of (gm ρ (enc x))).bind _ = _
    rw [e1]
    show ((p ρ1).nx).bind _ = _
    rw [e2]
    show (if q x = true then _ else _) = _
    cases hq : q x with
    | true =>
      rw [if_pos rfl, e3 hq]
      show (compD gm p me ρ (xs.map enc)).bind _ = _
      rw [ih, List.filter_cons_of_pos hq]
      rfl
    | false =>
      rw [if_neg Bool.false_ne_true, ih, List.filter_cons_of_neg (by rw [hq]; exact Bool.false_ne_true)]
theorem compD_map {α : Type} {gm : GM} {me : EM} {ρ : Env} (enc : α → D) (g : α → D) (xs : List α) (h : ∀ x ∈ xs, ∃ ρ1, gm ρ (enc x) = some ρ1 ∧ me ρ1 = .ok (g x)) : compD gm pYes me ρ (xs.map enc) = .ok (xs.map g) := by
  have := compD_fm (p := pYes) enc (fun _ => true) g xs fun x hx => let ⟨ρ1, a, b⟩ := h x hx; ⟨ρ1, a, rfl, fun _ => b⟩
  rw [this, List.filter_eq_self.mpr fun _ _ => rfl]
/-- a loop that may end early with a value -/
def foldR {α σ : Type} (step : σ → α → Sum σ D) : List α → σ → Sum σ D
  | [], s => .inl s
  | x :: xs, s => match step s x with
    | .inl s' => foldR step xs s'
    | .inr d => .inr d
/-- what a turn comes to: the slots for the next one, or a value -/
def Out.loop (junk : List Nat) : Out → Option (Sum Env D)
  | .nx ρ => some (.inl (fgs junk ρ))
  | .ct ρ => some (.inl (fgs junk ρ))
  | .rt d => some (.inr d)
  | _ => none
section
variable (junk : List Nat) (ρ : Env) (d : D) (body : SM)
@[simp] theorem loop_nx : (Out.nx ρ).loop junk = some (.inl (fgs junk ρ)) := nr rfl
@[simp] theorem loop_ct : (Out.ct ρ).loop junk = some (.inl (fgs junk ρ)) := nr rfl
@[simp] theorem loop_rt : (Out.rt d).loop junk = some (.inr d) := nr rfl
def turn (gm : GM) : Option (Sum Env D) := match gm ρ d with
  | some ρ1 => (body ρ1).loop junk
  | none => none
@[simp] theorem turn_one (i : Nat) : turn junk ρ d body (gOne i) = (body (ρ.set i (some (.val d)))).loop junk := nr rfl
@[simp] theorem turn_tup (is : List Nat) (ds : List D) (h : ds.length = is.length) : turn junk ρ (.tup ds) body (gTupM is) = (body (setAll ρ is ds)).loop junk := by
  show (match (if ds.length = is.length then some (setAll ρ is ds) else none) with
    | some ρ1 => (body ρ1).loop junk
    | none => none) = _
  rw [if_pos h]
end
@[simp] theorem turn_two (junk : List Nat) (ρ : Env) (body : SM) (i j : Nat) (a b : D) : turn junk ρ (.tup [a, b]) body (gTupM [i, j]) = (body ((ρ.set i (some (.val a))).set j (some (.val b)))).loop junk := nr rfl
@[simp] theorem turn_three (junk : List Nat) (ρ : Env) (body : SM) (i j k : Nat) (a b c : D) : turn junk ρ (.tup [a, b, c]) body (gTupM [i, j, k]) = (body (((ρ.set i (some (.val a))).set j (some (.val b))).set k (some (.val c)))).loop junk := nr rfl
theorem Out.loop_inl {junk : List Nat} {o : Out} {ρ : Env} (h : o.loop junk = some (.inl ρ)) : ∃ ρ2, (o = .nx ρ2 ∨ o = .ct ρ2) ∧ fgs junk ρ2 = ρ := by
  cases o with
  | nx ρ2 => cases h; exact ⟨ρ2, .inl rfl, rfl⟩
  | ct ρ2 => cases h; exact ⟨ρ2, .inr rfl, rfl⟩
  | _ => cases h
theorem turn_inl {junk : List Nat} {ρ ρ' : Env} {d : D} {body : SM} {gm : GM} (h : turn junk ρ d body gm = some (.inl ρ')) : ∃ ρ1, gm ρ d = some ρ1 ∧ ∃ ρ2, (body ρ1 = .nx ρ2 ∨ body ρ1 = .ct ρ2) ∧ fgs junk ρ2 = ρ' := by
  unfold turn at h
  cases e : gm ρ d with
  | none => rw [e] at h; cases h
  | some ρ1 => rw [e] at h; exact ⟨ρ1, rfl, Out.loop_inl h⟩
theorem turn_inr {junk : List Nat} {ρ : Env} {d d' : D} {body : SM} {gm : GM} (h : turn junk ρ d body gm = some (.inr d')) : ∃ ρ1, gm ρ d = some ρ1 ∧ body ρ1 = .rt d' := by
  unfold turn at h
  cases e : gm ρ d with
  | none => rw [e] at h; cases h
  | some ρ1 =>
    rw [e] at h
    dsimp only at h
    refine ⟨ρ1, rfl, ?_⟩
    cases o : body ρ1 with
    | rt x => rw [o] at h; cases h; rfl
    | _ => rw [o] at h; cases h
/-- .. as they are used: the invariant knows the turn's number -/
theorem forD_runA {α σ : Type} {junk : List Nat} {gm : GM} {body : SM} (enc : α → D) (E : σ → Env) (step : σ → α → σ) (I : Nat → σ → Prop) : ∀ (xs : List α) (k : Nat) (s : σ), I k s →
    (∀ i s x, xs[i]? = some x → I (k + i) s → turn junk (E s) (enc x) body gm = some (.inl (E (step s x))) ∧ I (k + i + 1) (step s x)) → forD junk gm body (xs.map enc) (E s) = .nx (E (xs.foldl step s)) ∧ I (k + xs.length) (xs.foldl step s)
  | [], k, s, hs, _ => ⟨rfl, hs⟩
  | x :: xs, k, s, hs, h => by
    obtain ⟨t, i⟩ := h 0 s x rfl hs
    obtain ⟨ρ1, e1, ρ2, e2, e3⟩ := turn_inl t
    have ih := forD_runA enc E step I xs (k + 1) (step s x) i fun i s y hy hI => by
      have := h (i + 1) s y hy (by rw [show k + (i + 1) = k + 1 + i from by omega]; exact hI)
      rw [show k + (i + 1) = k + 1 + i from by omega] at this
      exact this
    refine ⟨?_, by rw [List.length_cons, show k + (xs.length + 1) = k + 1 + xs.length from by omega]; exact ih.2⟩
    show forD junk gm body (enc x :: xs.map enc) (E s) = _
    unfold forD
    rw [e1]
    dsimp only
    rcases e2 with e2 | e2 <;> rw [e2] <;> dsimp only <;> rw [e3] <;> exact ih.1
theorem forD_run {α σ : Type} {junk : List Nat} {gm : GM} {body : SM} {ds : List D} {ρ0 : Env} (enc : α → D) (E : σ → Env) (step : σ → α → σ) (I : Nat → σ → Prop) (xs : List α) (s : σ) (hds : ds = xs.map enc) (hρ : ρ0 = E s) (hI : I 0 s)
    (h : ∀ i s x, xs[i]? = some x → I i s → turn junk (E s) (enc x) body gm = some (.inl (E (step s x))) ∧ I (i + 1) (step s x)) : forD junk gm body ds ρ0 = .nx (E (xs.foldl step s)) ∧ I xs.length (xs.foldl step s) := by
  subst hds hρ
  have := forD_runA enc E step I xs 0 s hI fun i s x hx hi => by rw [Nat.zero_add] at hi ⊢; exact h i s x hx hi
  rw [Nat.zero_add] at this
  exact this
theorem forD_runRA {α σ : Type} {junk : List Nat} {gm : GM} {body : SM} (enc : α → D) (E : σ → Env) (step : σ → α → Sum σ D) (I : Nat → σ → Prop) : ∀ (xs : List α) (k : Nat) (s : σ), I k s →
    (∀ i s x, xs[i]? = some x → I (k + i) s → match step s x with
      | .inl s' => turn junk (E s) (enc x) body gm = some (.inl (E s')) ∧ I (k + i + 1) s'
      | .inr d => turn junk (E s) (enc x) body gm = some (.inr d)) →
    match foldR step xs s with
      | .inl s' => forD junk gm body (xs.map enc) (E s) = .nx (E s') ∧ I (k + xs.length) s'
      | .inr d => forD junk gm body (xs.map enc) (E s) = .rt d
  | [], k, s, hs, _ => ⟨rfl, hs⟩
  | x :: xs, k, s, hs, h => by
    have t := h 0 s x rfl hs
    unfold foldR
    cases q : step s x with
    | inl s' =>
      rw [q] at t
      obtain ⟨ρ1, e1, ρ2, e2, e3⟩ := turn_inl t.1
      have ih := forD_runRA enc E step I xs (k + 1) s' t.2 fun i s y hy hI => by
        have := h (i + 1) s y hy (by rw [show k + (i + 1) = k + 1 + i from by omega]; exact hI)
        rw [show k + (i + 1) = k + 1 + i from by omega] at this
        exact this
      have e : forD junk gm body ((x :: xs).map enc) (E s) = forD junk gm body (xs.map enc) (E s') := by
        show forD junk gm body (enc x :: xs.map enc) (E s) = _
        conv => lhs; unfold forD
        rw [e1]
        dsimp only
        rcases e2 with e2 | e2 <;> rw [e2] <;> dsimp only <;> rw [e3]
      dsimp only
      rw [e, List.length_cons, show k + (xs.length + 1) = k + 1 + xs.length from by omega]
      exact ih
    | inr d =>
      rw [q] at t
      obtain ⟨ρ1, e1, e2⟩ := turn_inr t
      show forD junk gm body (enc x :: xs.map enc) (E s) = _
      unfold forD
      rw [e1]
      dsimp only
      rw [e2]
theorem forD_runR {α σ : Type} {junk : List Nat} {gm : GM} {body : SM} {ds : List D} {ρ0 : Env} (enc : α → D) (E : σ → Env) (step : σ → α → Sum σ D) (I : Nat → σ → Prop) (xs : List α) (s : σ) (hds : ds = xs.map enc) (hρ : ρ0 = E s) (hI : I 0 s)
    (h : ∀ i s x, xs[i]? = some x → I i s → match step s x with
      | .inl s' => turn junk (E s) (enc x) body gm = some (.inl (E s')) ∧ I (i + 1) s'
      | .inr d => turn junk (E s) (enc x) body gm = some (.inr d)) :
    match foldR step xs s with
      | .inl s' => forD junk gm body ds ρ0 = .nx (E s') ∧ I xs.length s'
      | .inr d => forD junk gm body ds ρ0 = .rt d := by
  subst hds hρ
  have := forD_runRA enc E step I xs 0 s hI fun i s x hx hi => by rw [Nat.zero_add] at hi ⊢; exact h i s x hx hi
  rw [Nat.zero_add] at this
  exact this

/-! ### sides, cells, floors -/
inductive Side where
  | n | e | s | w
  deriving DecidableEq
def Side.str : Side → Str
  | .n => "n" | .e => "e" | .s => "s" | .w => "w"
def sides : List Side := [.n, .e, .s, .w]
@[simp] theorem Side.ok (s : Side) : PyData.strOk s.str = true := by cases s <;> exact ok_lit _
theorem Side.str_inj {a b : Side} (h : a.str = b.str) : a = b := by
  cases a <;> cases b <;> first | rfl | exact absurd h (by decide)
def Side.pick {α : Type} (a b c d : α) : Side → α
  | .n => a | .e => b | .s => c | .w => d
@[simp] theorem pick_int (a b c d : Int) (s : Side) : Side.pick (D.int a) (D.int b) (D.int c) (D.int d) s = .int (Side.pick a b c d s) := by cases s <;> rfl
abbrev Side.dx (s : Side) : Int := Side.pick 0 1 0 (-1) s
abbrev Side.dy (s : Side) : Int := Side.pick (-1) 0 1 0 s
theorem same_lit (s t : String) : D.same (.str (Str.ofString s)) (.str (Str.ofString t)) = decide (s = t) := by
  show decide (Str.ofString s = Str.ofString t) = _
  simp
@[simp] theorem idx_nesw (a b c d : D) (s : Side) : D.idx (.dct false (mergeD [(.str "n", a), (.str "e", b), (.str "s", c), (.str "w", d)])) (.str s.str) = some (s.pick a b c d) := by
  have e : mergeD [(.str "n", a), (.str "e", b), (.str "s", c), (.str "w", d)] = [(.str "n", a), (.str "e", b), (.str "s", c), (.str "w", d)] := by
    simp [mergeD, D.put, same_lit]
  rw [e]
  show D.find _ _ = _
  cases s <;> simp [D.find, Side.str, same_lit, Side.pick]
/-- a kind: a, b, c -/
def kindS (k : Nat) : Str := ⟨#[97 + k]⟩
inductive Cell where
  | wall | fin | belt (s : Side) | parter (s t : Side) | well (s : Side) (k w : Nat)
  deriving DecidableEq
def Cell.enc : Cell → D
  | .wall => .tup [.str "wall"]
  | .fin => .tup [.str "end"]
  | .belt s => .tup [.str "belt", .str s.str]
  | .parter s t => .tup [.str "parter", .str s.str, .str t.str]
  | .well s k w => .tup [.str "well", .str s.str, .str (kindS k), .int w]
def Cell.Ok : Cell → Prop
  | .parter s t => s ≠ t
  | .well _ k w => k < 3 ∧ 1 ≤ w ∧ w ≤ 5
  | _ => True
def Cell.word : Cell → Str
  | .wall => "wall" | .fin => "end" | .belt _ => "belt" | .parter _ _ => "parter" | .well _ _ _ => "well"
@[simp] theorem word_idx (c : Cell) : D.idx c.enc (.int 0) = some (.str c.word) := by cases c <;> rfl
@[simp] theorem Cell.word_ok (c : Cell) : PyData.strOk c.word = true := by cases c <;> exact ok_lit _
theorem kindS_inj {k j : Nat} (h : kindS k = kindS j) : k = j := by
  unfold kindS at h
  injection h with h
  have := congrArg Array.toList h
  simp at this
  exact this
theorem Cell.enc_inj {a b : Cell} (h : a.enc = b.enc) : a = b := by
  have w : a.word = b.word := by
    have := word_idx a
    rw [h, word_idx b] at this
    injection this with this
    injection this with this
    exact this.symm
  cases a <;> cases b <;> simp [Cell.word] at w <;> simp [Cell.enc] at h ⊢
  · exact Side.str_inj h
  · exact ⟨Side.str_inj h.1, Side.str_inj h.2⟩
  · exact ⟨Side.str_inj h.1, kindS_inj h.2.1, by omega⟩
theorem kindS_ok {k : Nat} (h : k < 1000) : PyData.strOk (kindS k) = true := by
  unfold kindS PyData.strOk
  simp
  omega
theorem Cell.cl (c : Cell) : c.enc.cl = true := by cases c <;> rfl
theorem Cell.sh {c : Cell} (h : c.Ok) : D.sh 1 c.enc = true := by
  cases c with
  | well s k w =>
    have := h.1
    simp [Cell.enc, D.sh, kindS_ok (show k < 1000 by omega)]
  | _ => simp [Cell.enc, D.sh]
theorem Cell.d_eq {a b : Cell} (ha : a.Ok) (hb : b.Ok) : D.eq a.enc b.enc = some (.bl (decide (a = b))) := d_eq_cl a.cl b.cl (Cell.sh ha) (Cell.sh hb) (h := ⟨Cell.enc_inj, fun e => by rw [e]⟩)
theorem Cell.d_ne {a b : Cell} (ha : a.Ok) (hb : b.Ok) : D.ne a.enc b.enc = some (.bl (!decide (a = b))) := d_ne_cl a.cl b.cl (Cell.sh ha) (Cell.sh hb) (h := ⟨Cell.enc_inj, fun e => by rw [e]⟩)
def Cell.outs : Cell → List Side
  | .belt s => [s]
  | .well s _ _ => [s]
  | .parter s t => [s, t]
  | _ => []
structure Fl where
  wide : Nat
  high : Nat
  cells : List Cell
structure Fl.Ok (f : Fl) : Prop where
  w1 : 1 ≤ f.wide
  w6 : f.wide ≤ 6
  h1 : 1 ≤ f.high
  h5 : f.high ≤ 5
  len : f.cells.length = f.wide * f.high
  ok : ∀ c ∈ f.cells, c.Ok
def Fl.enc (f : Fl) : D := .tup [.int f.wide, .int f.high, .tup (f.cells.map Cell.enc)]
@[simp] theorem Fl.enc_0 (f : Fl) : D.idx f.enc (.int 0) = some (.int f.wide) := idx_t0 _ _
@[simp] theorem Fl.enc_1 (f : Fl) : D.idx f.enc (.int 1) = some (.int f.high) := idx_t1 _ _ _
@[simp] theorem Fl.enc_2 (f : Fl) : D.idx f.enc (.int 2) = some (.tup (f.cells.map Cell.enc)) := idx_t2 _ _ _ _
def Fl.at (f : Fl) (c : Nat) : Cell := f.cells.getD c .wall
def Fl.size (f : Fl) : Nat := f.cells.length
theorem Fl.size_le {f : Fl} (h : f.Ok) : f.size ≤ 30 := by
  unfold Fl.size; rw [h.len]
  exact Nat.le_trans (Nat.mul_le_mul h.w6 h.h5) (by decide)
theorem Fl.get {f : Fl} {c : Nat} (h : c < f.size) : f.cells[c]? = some (f.at c) := by
  unfold Fl.at; rw [List.getD_eq_getElem?_getD, List.getElem?_eq_getElem h]; rfl
theorem Fl.cell {f : Fl} {c : Nat} (h : c < f.size) : D.idx (.tup (f.cells.map Cell.enc)) (.int (c : Int)) = some (f.at c).enc :=
  idx_t (by rw [List.getElem?_map, Fl.get h]; rfl)
theorem Fl.place {f : Fl} (h : f.Ok) {a d : Int} (h1 : 0 ≤ a) (h2 : a < f.wide) (h3 : 0 ≤ d) (h4 : d < f.high) : ∃ t : Nat, d * f.wide + a = t ∧ t < f.size := by
  have h0 : 0 ≤ d * f.wide := Int.mul_nonneg h3 (Int.natCast_nonneg _)
  refine ⟨(d * f.wide + a).toNat, (Int.toNat_of_nonneg (by omega)).symm, ?_⟩
  unfold Fl.size
  rw [h.len]
  have : d * f.wide + a < (f.high : Int) * f.wide := by
    have h5 : (d + 1) * (f.wide : Int) ≤ (f.high : Int) * f.wide := Int.mul_le_mul_of_nonneg_right (by omega) (Int.natCast_nonneg _)
    rw [Int.add_mul] at h5
    omega
  rw [Nat.mul_comm]
  omega
@[simp] theorem word_wall (c : Cell) : c.word = Str.ofString "wall" ↔ c = .wall := by cases c <;> simp [Cell.word]
@[simp] theorem word_end (c : Cell) : c.word = Str.ofString "end" ↔ c = .fin := by cases c <;> simp [Cell.word]
theorem Fl.at_ok {f : Fl} (h : f.Ok) (c : Nat) : (f.at c).Ok := by
  unfold Fl.at
  rw [List.getD_eq_getElem?_getD]
  cases q : f.cells[c]? with
  | none => trivial
  | some x => exact h.ok x (List.mem_of_getElem? q)
def encO : Option Nat → D
  | none => .non
  | some n => .int (n : Int)
def Fl.toI (f : Fl) (c : Nat) (s : Side) : Int × Int := (((c % f.wide : Nat) : Int) + s.dx, ((c / f.wide : Nat) : Int) + s.dy)
def Fl.beside (f : Fl) (c : Nat) (s : Side) : Option Nat :=
  let a : Int := ((c % f.wide : Nat) : Int) + s.dx
  let d : Int := ((c / f.wide : Nat) : Int) + s.dy
  if 0 ≤ a ∧ a < f.wide ∧ 0 ≤ d ∧ d < f.high then
    (if f.at (d * f.wide + a).toNat = .wall then none else some (d * f.wide + a).toNat)
  else none
def Fl.goals (f : Fl) (c : Nat) : List Nat := (f.at c).outs.filterMap (f.beside c)
def Fl.comers (f : Fl) (c : Nat) : List Nat := (sides.filterMap (f.beside c)).filter fun o => decide (c ∈ f.goals o)
theorem mod_w {f : Fl} (ok : f.Ok) (c : Int) : D.mod (.int c) (.int f.wide) = some (.int (c % f.wide)) := d_mod _ _ (by have := ok.w1; omega)
theorem div_w {f : Fl} (ok : f.Ok) (c : Int) : D.fdiv (.int c) (.int f.wide) = some (.int (c / f.wide)) := d_fdiv _ _ (by have := ok.w1; omega) (by have := ok.w6; omega)
theorem mul_w {f : Fl} (ok : f.Ok) (c : Int) : D.mul (.int c) (.int f.wide) = some (.int (c * f.wide)) := d_mul _ _ (.inr (by have := ok.w6; simp [smallI]; omega))
theorem beside_lt {f : Fl} (ok : f.Ok) {c t : Nat} {s : Side} (h : f.beside c s = some t) : t < f.size := by
  unfold Fl.beside at h
  dsimp only at h
  split at h
  · rename_i q
    obtain ⟨t', e, ht⟩ := Fl.place ok q.1 q.2.1 q.2.2.1 q.2.2.2
    rw [e] at h
    simp at h
    omega
  · cases h
theorem outs_len (c : Cell) : c.outs.length ≤ 2 := by cases c <;> simp [Cell.outs]
theorem fm_enc (g : Side → Option Nat) : ∀ l : List Side, ((l.map g).filter fun o => o.isSome).map encO = nats (l.filterMap g)
  | [] => rfl
  | s :: l => by
    have ih := fm_enc g l
    unfold nats at ih ⊢
    cases h : g s with
    | none => simp [h, ih]
    | some n => simp [h, ih, encO]
theorem goals_lt {f : Fl} (ok : f.Ok) {c t : Nat} (h : t ∈ f.goals c) : t < f.size := by
  unfold Fl.goals at h
  obtain ⟨s, _, e⟩ := List.mem_filterMap.mp h
  exact beside_lt ok e
theorem goals_len (f : Fl) (c : Nat) : (f.goals c).length ≤ 2 := Nat.le_trans (List.length_filterMap_le _ _) (outs_len _)
theorem comers_lt {f : Fl} (ok : f.Ok) {c t : Nat} (h : t ∈ f.comers c) : t < f.size := by
  unfold Fl.comers at h
  obtain ⟨s, _, e⟩ := List.mem_filterMap.mp (List.mem_filter.mp h).1
  exact beside_lt ok e
theorem comers_len (f : Fl) (c : Nat) : (f.comers c).length ≤ 4 := Nat.le_trans (List.length_filter_le _ _) (List.length_filterMap_le _ sides)
def Fl.comeStep (f : Fl) (c : Nat) (l : List Nat) (s : Side) : List Nat := match f.beside c s with
  | some o => if c ∈ f.goals o then l ++ [o] else l
  | none => l
theorem comeStep_fold (f : Fl) (c : Nat) : ∀ (ss : List Side) (l : List Nat), ss.foldl (f.comeStep c) l = l ++ (ss.filterMap (f.beside c)).filter fun o => decide (c ∈ f.goals o)
  | [], l => by simp
  | s :: ss, l => by
    rw [List.foldl_cons, comeStep_fold f c ss]
    unfold Fl.comeStep
    cases h : f.beside c s with
    | none => simp [h]
    | some o => by_cases hc : c ∈ f.goals o <;> simp [h, hc]
theorem idx_nesw_str (j : Int) (h : 0 ≤ j) (h4 : j < 4) : ∃ s : Side, D.idx (.str "nesw") (.int j) = some (.str s.str) ∧ s = ([Side.n, .e, .s, .w]).getD j.toNat .n := by
  have : j = 0 ∨ j = 1 ∨ j = 2 ∨ j = 3 := by omega
  rcases this with h | h | h | h <;> subst h
  · exact ⟨.n, by with_unfolding_all rfl, rfl⟩
  · exact ⟨.e, by with_unfolding_all rfl, rfl⟩
  · exact ⟨.s, by with_unfolding_all rfl, rfl⟩
  · exact ⟨.w, by with_unfolding_all rfl, rfl⟩
theorem idx_abc_str (j : Int) (h : 0 ≤ j) (h4 : j < 3) : D.idx (.str "abc") (.int j) = some (.str (kindS j.toNat)) := by
  have : j = 0 ∨ j = 1 ∨ j = 2 := by omega
  rcases this with h | h | h <;> subst h
  · with_unfolding_all rfl
  · with_unfolding_all rfl
  · with_unfolding_all rfl
theorem index_nesw (s : Side) : mIndexS (.str "nesw") [.str s.str] = some (.int (s.pick 0 1 2 3)) := by
  cases s <;> with_unfolding_all rfl
/-- the number at place k of the script -/
def cellI (ns : List Int) (k : Nat) : Int := ns.getD k 0
theorem idx_scr {ns : List Int} {k : Nat} (h : k < ns.length) : D.idx (.scr ns) (.int (k : Int)) = some (.int (cellI ns k)) := by
  show (atI ns (k : Int)).map D.int = _
  rw [atI_nat (List.getElem?_eq_getElem h)]
  unfold cellI
  rw [List.getD_eq_getElem?_getD, List.getElem?_eq_getElem h]
  rfl
@[simp] theorem len_scr (ns : List Int) : D.len (.scr ns) = some (.int ns.length) := nr rfl
def seedI (s k : Int) : Int := ((s * 1103515245 + 7919 * k + 12345) % 2147483647) ^ 5 % 2147483647
theorem seedI_nn (s k : Int) : 0 ≤ seedI s k := Int.emod_nonneg _ (by decide)
/-- a loop that runs through, by a property of its slots -/
theorem forD_inv {junk : List Nat} {gm : GM} {body : SM} (P : Nat → Env → Prop) : ∀ (ds : List D) (k : Nat) (ρ : Env), P k ρ → (∀ i d ρ, ds[i]? = some d → P (k + i) ρ → ∃ ρ', turn junk ρ d body gm = some (.inl ρ') ∧ P (k + i + 1) ρ') → ∃ ρ', forD junk gm body ds ρ = .nx ρ' ∧ P (k + ds.length) ρ'
  | [], k, ρ, h, _ => ⟨ρ, rfl, h⟩
  | d :: ds, k, ρ, h, hs => by
    obtain ⟨ρ', t, h'⟩ := hs 0 d ρ rfl h
    obtain ⟨ρ1, e1, ρ2, e2, e3⟩ := turn_inl t
    obtain ⟨ρ3, e4, h3⟩ := forD_inv P ds (k + 1) ρ' h' fun i d ρ hd hp => by
      have := hs (i + 1) d ρ hd (by rw [show k + (i + 1) = k + 1 + i from by omega]; exact hp)
      rw [show k + (i + 1) = k + 1 + i from by omega] at this
      exact this
    refine ⟨ρ3, ?_, by rw [List.length_cons, show k + (ds.length + 1) = k + 1 + ds.length from by omega]; exact h3⟩
    unfold forD
    rw [e1]
    dsimp only
    rcases e2 with e2 | e2 <;> rw [e2] <;> dsimp only <;> rw [e3] <;> exact e4
theorem rg1_nat {n : Nat} (h : n ≤ 1000000) : rg1 [.int (n : Int)] = some (nats (List.range n)) := by
  have h1 : (decide (-(2 ^ 62) ≤ (n : Int)) && decide ((n : Int) < 2 ^ 62)) = true := by
    rw [Bool.and_eq_true, decide_eq_true_eq, decide_eq_true_eq]
    constructor <;> omega
  unfold rg1
  dsimp only
  rw [if_pos h1, Int.toNat_natCast]
  rfl
theorem setAt_l {ds : List D} {k : Nat} (h : k < ds.length) (v : D) : D.setAt (.lst ds) (.int (k : Int)) v = some (.lst (ds.set k v)) := by
  show (ixN ds.length (k : Int)).map _ = _
  rw [ixN_nat h]; rfl
theorem setAt_last {ds : List D} (h : 0 < ds.length) (v : D) : D.setAt (.lst ds) (.int (-1)) v = some (.lst (ds.set (ds.length - 1) v)) := by
  show (ixN ds.length (-1)).map _ = _
  unfold ixN
  rw [if_neg (by decide), if_pos (by omega)]
  show some _ = _
  rw [show ((-1 : Int) + (ds.length : Int)).toNat = ds.length - 1 from by omega]
/-- a loop named, by a property of its slots -/
theorem inv_of {junk : List Nat} {gm : GM} {body : SM} {ds : List D} {ρ : Env} {X : Out} (hX : forD junk gm body ds ρ = X) (P : Nat → Env → Prop) (h0 : P 0 ρ) (hs : ∀ i d ρ, ds[i]? = some d → P i ρ → ∃ ρ', turn junk ρ d body gm = some (.inl ρ') ∧ P (i + 1) ρ') : ∃ ρ', X = .nx ρ' ∧ P ds.length ρ' := by
  obtain ⟨ρ', e, h⟩ := forD_inv P ds 0 ρ h0 fun i d ρ hd hp => by rw [Nat.zero_add] at hp ⊢; exact hs i d ρ hd hp
  rw [Nat.zero_add] at h
  exact ⟨ρ', hX.symm.trans e, h⟩
theorem nats_range_get {n i : Nat} {d : D} (h : (nats (List.range n))[i]? = some d) : i < n ∧ d = .int (i : Int) := by
  have hi : i < n := by have := (List.getElem?_eq_some_iff.mp h).1; simpa using this
  rw [nats_get (List.getElem?_range hi)] at h
  cases h
  exact ⟨hi, rfl⟩
end L2.Pv

set_option Elab.async false
set_option linter.all false
set_option maxRecDepth 100000
set_option maxHeartbeats 4000000
set_option autoImplicit false
/-! while; sorted numbers; what is come to from a cell. -/
namespace L2.Pv
open PySem PySem.Spec PyProof.Rows

/-! ### while -/
def iterW {σ : Type} (cond : σ → Bool) (step : σ → σ) : Nat → σ → σ
  | 0, s => s
  | n + 1, s => if cond s then iterW cond step n (step s) else s
theorem while_run {σ : Type} {junk : List Nat} {p : TM} {body : SM} (E : σ → Env) (cond : σ → Bool) (step : σ → σ) (meas : σ → Nat) (I : σ → Prop)
    (hp : ∀ s, I s → p (E s) = .ok (cond s)) (hb : ∀ s, I s → cond s = true → (body (E s)).loop junk = some (.inl (E (step s))) ∧ I (step s) ∧ meas (step s) < meas s) :
    ∀ (n : Nat) (s : σ), I s → meas s < n → whileD junk p body n (E s) = .nx (E (iterW cond step n s)) ∧ I (iterW cond step n s) ∧ cond (iterW cond step n s) = false
  | 0, s, _, h => absurd h (Nat.not_lt_zero _)
  | n + 1, s, hs, h => by
    unfold whileD iterW
    rw [hp s hs]
    show (if cond s = true then _ else _) = _ ∧ _
    cases hc : cond s with
    | false => exact ⟨rfl, hs, hc⟩
    | true =>
      obtain ⟨b1, b2, b3⟩ := hb s hs hc
      obtain ⟨ρ2, e2, e3⟩ := Out.loop_inl b1
      have ih := while_run E cond step meas I hp hb n (step s) b2 (by omega)
      rw [if_pos rfl, if_pos rfl]
      refine ⟨?_, ih.2⟩
      rcases e2 with e2 | e2 <;> rw [e2] <;> dsimp only <;> rw [e3] <;> exact ih.1

/-! ### sorted numbers -/
def castL (l : List Nat) : List Int := l.map fun n : Nat => (n : Int)
def sortN (l : List Nat) : List Nat := (sortI (castL l)).map Int.toNat
theorem castL_toNat (l : List Nat) : (castL l).map Int.toNat = l := by
  unfold castL; rw [List.map_map]; simp [Function.comp_def]
theorem sortN_perm (l : List Nat) : (sortN l).Perm l := by
  have := (sortI_perm (castL l)).map Int.toNat
  rw [castL_toNat] at this
  exact this
theorem sortN_cast (l : List Nat) : (sortN l).map (fun n : Nat => (n : Int)) = sortI (castL l) := by
  unfold sortN
  rw [List.map_map]
  have : ∀ x ∈ sortI (castL l), ((fun n : Nat => (n : Int)) ∘ Int.toNat) x = id x := fun x hx => by
    have := (sortI_perm (castL l)).mem_iff.mp hx
    obtain ⟨n, _, e⟩ := List.mem_map.mp this
    rw [← e]; rfl
  rw [List.map_congr_left this, List.map_id]
theorem sortN_sorted (l : List Nat) : (sortN l).Pairwise (· ≤ ·) := by
  have h := sortI_sorted (castL l)
  rw [← sortN_cast, List.pairwise_map] at h
  exact h.imp fun h => by omega
theorem sortN_one {l m : List Nat} (p : l.Perm m) (h : m.Pairwise (· ≤ ·)) : sortN l = m :=
  List.Perm.eq_of_pairwise (fun a b _ _ c d => Nat.le_antisymm c d) (sortN_sorted l) h ((sortN_perm l).trans p)
theorem sortN_same {l m : List Nat} (hl : l.Nodup) (hm : m.Nodup) (h : ∀ x, x ∈ l ↔ x ∈ m) : sortN l = sortN m :=
  sortN_one (((List.perm_ext_iff_of_nodup hl hm).mpr h).trans (sortN_perm m).symm) (sortN_sorted m)
@[simp] theorem mem_sortN {l : List Nat} {x : Nat} : x ∈ sortN l ↔ x ∈ l := (sortN_perm l).mem_iff
theorem sortN_len (l : List Nat) : (sortN l).length = l.length := (sortN_perm l).length_eq
theorem ints_nats : ∀ l : List Nat, D.ints (nats l) = some (castL l)
  | [] => rfl
  | n :: l => by
    show (D.ints (nats l)).map _ = _
    rw [ints_nats l]; rfl
theorem sorted_nats {l : List Nat} (h : l.length < 64) : bSorted [.lst (nats l)] = some (.lst (nats (sortN l))) := by
  show (D.ints (nats l)).bind _ = _
  rw [ints_nats]
  show (if (castL l).length < 64 then _ else _) = _
  rw [if_pos (by unfold castL; simpa using h), ← sortN_cast]
  unfold nats
  rw [List.map_map]; rfl
theorem len_sub {α : Type} [DecidableEq α] : ∀ {l m : List α}, l.Nodup → (∀ x ∈ l, x ∈ m) → l.length ≤ m.length
  | [], _, _, _ => Nat.zero_le _
  | x :: l, m, h, hs => by
    obtain ⟨h1, h2⟩ := List.nodup_cons.mp h
    have hx := hs x List.mem_cons_self
    have := len_sub (m := m.erase x) h2 fun y hy => (List.mem_erase_of_ne (fun e : y = x => h1 (by rw [← e]; exact hy))).mpr (hs y (List.mem_cons_of_mem _ hy))
    rw [List.length_erase_of_mem hx] at this
    have := List.length_pos_of_mem hx
    simp
    omega
/-- numbers below n, none twice: at most n -/
theorem nodup_len {l : List Nat} {n : Nat} (h : l.Nodup) (hb : ∀ x ∈ l, x < n) : l.length ≤ n := by
  have := len_sub h fun x hx => List.mem_range.mpr (hb x hx)
  rwa [List.length_range] at this

/-! ### what is come to -/
inductive To (G : Nat → List Nat) : Nat → Nat → Prop
  | here (c : Nat) : To G c c
  | on {c a b : Nat} : To G c a → b ∈ G a → To G c b
theorem To.trans {G : Nat → List Nat} {a b c : Nat} (h : To G a b) (k : To G b c) : To G a c := by
  induction k with
  | here => exact h
  | on _ hb ih => exact .on ih hb
theorem To.lt {G : Nat → List Nat} {n c x : Nat} (hG : ∀ a b, b ∈ G a → b < n) (hc : c < n) (h : To G c x) : x < n := by
  cases h with
  | here => exact hc
  | on _ hb => exact hG _ _ hb
/-- a list of what is come to, that no step leaves -/
structure ToList (G : Nat → List Nat) (c : Nat) (l : List Nat) : Prop where
  nd : l.Nodup
  mem : ∀ x, x ∈ l ↔ To G c x
theorem ToList.of {G : Nat → List Nat} {c : Nat} {l : List Nat} (nd : l.Nodup) (hc : c ∈ l) (ok : ∀ x ∈ l, To G c x) (cl : ∀ x ∈ l, ∀ y ∈ G x, y ∈ l) : ToList G c l :=
  ⟨nd, fun x => ⟨ok x, fun h => by
    induction h with
    | here => exact hc
    | on _ hb ih => exact cl _ ih _ hb⟩⟩
/-! by rows: found, and how many are looked at -/
def bfsCond (s : List Nat × Nat) : Bool := decide (s.2 < s.1.length)
def bfsStep (G : Nat → List Nat) (s : List Nat × Nat) : List Nat × Nat := (s.1 ++ (G (s.1.getD s.2 0)).filter fun x => !decide (x ∈ s.1), s.2 + 1)
structure BfsOk (G : Nat → List Nat) (n c : Nat) (s : List Nat × Nat) : Prop where
  nd : s.1.Nodup
  lt : ∀ x ∈ s.1, x < n
  hc : c ∈ s.1
  at_ : s.2 ≤ s.1.length
  ok : ∀ x ∈ s.1, To G c x
  cl : ∀ i, i < s.2 → ∀ y ∈ G (s.1.getD i 0), y ∈ s.1
theorem getD_app {l m : List Nat} {i : Nat} (h : i < l.length) : (l ++ m).getD i 0 = l.getD i 0 := by
  rw [List.getD_eq_getElem?_getD, List.getD_eq_getElem?_getD, List.getElem?_append_left h]
theorem getD_mem {l : List Nat} {i : Nat} (h : i < l.length) : l.getD i 0 ∈ l := by
  rw [List.getD_eq_getElem?_getD, List.getElem?_eq_getElem h]
  exact List.getElem_mem h
theorem bfs_step {G : Nat → List Nat} {n c : Nat} (hG : ∀ a b, b ∈ G a → b < n) (hn : ∀ a, (G a).Nodup) {s : List Nat × Nat} (h : BfsOk G n c s) (hc : bfsCond s = true) : BfsOk G n c (bfsStep G s) := by
  have hlt : s.2 < s.1.length := of_decide_eq_true hc
  have hm := getD_mem hlt
  unfold bfsStep
  refine ⟨?_, fun x hx => ?_, List.mem_append_left _ h.hc, ?_, fun x hx => ?_, fun i hi y hy => ?_⟩
  · refine List.nodup_append.mpr ⟨h.nd, (hn _).filter _, fun a ha b hb e => ?_⟩
    subst e
    have := (List.mem_filter.mp hb).2
    simp at this
    exact this ha
  · rcases List.mem_append.mp hx with hx | hx
    · exact h.lt x hx
    · exact hG _ _ (List.mem_filter.mp hx).1
  · show s.2 + 1 ≤ (s.1 ++ _).length
    rw [List.length_append]; omega
  · rcases List.mem_append.mp hx with hx | hx
    · exact h.ok x hx
    · exact .on (h.ok _ hm) (List.mem_filter.mp hx).1
  · have hi : i < s.2 + 1 := hi
    have hy : y ∈ G ((s.1 ++ (G (s.1.getD s.2 0)).filter fun x => !decide (x ∈ s.1)).getD i 0) := hy
    rw [getD_app (by omega)] at hy
    by_cases e : i = s.2
    · subst e
      by_cases hm : y ∈ s.1
      · exact List.mem_append_left _ hm
      · exact List.mem_append_right _ (List.mem_filter.mpr ⟨hy, by simp [hm]⟩)
    · exact List.mem_append_left _ (h.cl i (by omega) y hy)
theorem bfs_done {G : Nat → List Nat} {n c : Nat} {s : List Nat × Nat} (h : BfsOk G n c s) (hc : bfsCond s = false) : ToList G c s.1 := by
  have hge : s.1.length ≤ s.2 := by
    have := of_decide_eq_false hc
    omega
  refine .of h.nd h.hc h.ok fun x hx y hy => ?_
  obtain ⟨i, hi, e⟩ := List.getElem_of_mem hx
  refine h.cl i (by omega) y ?_
  rw [List.getD_eq_getElem?_getD, List.getElem?_eq_getElem hi]
  show y ∈ G (s.1[i])
  rw [e]; exact hy
theorem bfs_meas {G : Nat → List Nat} {n c : Nat} {s : List Nat × Nat} (h : BfsOk G n c s) (hc : bfsCond s = true) : n + 1 - (bfsStep G s).2 < n + 1 - s.2 := by
  have hlt : s.2 < s.1.length := of_decide_eq_true hc
  have := nodup_len h.nd h.lt
  show n + 1 - (s.2 + 1) < _
  omega
theorem bfs_zero {G : Nat → List Nat} {n c : Nat} (hc : c < n) : BfsOk G n c ([c], 0) :=
  ⟨by simp, fun x hx => by rw [List.mem_singleton.mp hx]; exact hc, List.mem_singleton.mpr rfl, Nat.zero_le _, fun x hx => by rw [List.mem_singleton.mp hx]; exact .here c, fun i hi => absurd hi (Nat.not_lt_zero _)⟩
/-! by rounds -/
def addK (l : List Nat) (x : Nat) : List Nat := if x ∈ l then l else l ++ [x]
theorem addK_mem {l : List Nat} {x y : Nat} : y ∈ addK l x ↔ y ∈ l ∨ y = x := by
  unfold addK
  split
  · rename_i h
    exact ⟨.inl, fun q => by rcases q with q | q; exact q; rw [q]; exact h⟩
  · simp
theorem addK_nd {l : List Nat} {x : Nat} (h : l.Nodup) : (addK l x).Nodup := by
  unfold addK
  split
  · exact h
  · rename_i hx
    exact List.nodup_append.mpr ⟨h, by simp, fun a ha b hb e => by rw [List.mem_singleton.mp hb] at e; subst e; exact hx ha⟩
theorem addKs_mem {y : Nat} : ∀ {m l : List Nat}, y ∈ m.foldl addK l ↔ y ∈ l ∨ y ∈ m
  | [], l => by simp
  | x :: m, l => by rw [List.foldl_cons, addKs_mem, addK_mem, List.mem_cons, or_assoc]
theorem addKs_nd : ∀ {m l : List Nat}, l.Nodup → (m.foldl addK l).Nodup
  | [], l, h => h
  | x :: m, l, h => addKs_nd (m := m) (addK_nd h)
def roundG (G : Nat → List Nat) (l : List Nat) : List Nat := l.foldl (fun acc o => (G o).foldl addK acc) l
theorem rounds_mem {G : Nat → List Nat} {y : Nat} : ∀ {m l : List Nat}, y ∈ m.foldl (fun acc o => (G o).foldl addK acc) l ↔ y ∈ l ∨ ∃ o ∈ m, y ∈ G o
  | [], l => by simp
  | x :: m, l => by
    rw [List.foldl_cons, rounds_mem, addKs_mem]
    simp [or_assoc]
theorem rounds_nd {G : Nat → List Nat} : ∀ {m l : List Nat}, l.Nodup → (m.foldl (fun acc o => (G o).foldl addK acc) l).Nodup
  | [], l, h => h
  | x :: m, l, h => rounds_nd (m := m) (addKs_nd h)
def roundsN (G : Nat → List Nat) : Nat → List Nat → List Nat
  | 0, l => l
  | k + 1, l => roundsN G k (roundG G l)
theorem rounds_ok {G : Nat → List Nat} {n c : Nat} (hG : ∀ a b, b ∈ G a → b < n) : ∀ (k : Nat) (l : List Nat), l.Nodup → c ∈ l → (∀ x ∈ l, To G c x ∧ x < n) → ((∀ x ∈ l, ∀ y ∈ G x, y ∈ l) ∨ n < l.length + k) → ToList G c (roundsN G k l)
  | 0, l, nd, hc, ok, cl => .of nd hc (fun x hx => (ok x hx).1) (by
      rcases cl with h | h
      · exact h
      · have := nodup_len nd fun x hx => (ok x hx).2
        omega)
  | k + 1, l, nd, hc, ok, cl => by
    have nd' : (roundG G l).Nodup := rounds_nd nd
    refine rounds_ok hG k _ nd' (rounds_mem.mpr (.inl hc)) (fun x hx => ?_) ?_
    · rcases rounds_mem.mp hx with h | ⟨o, ho, h⟩
      · exact ok x h
      · exact ⟨.on (ok o ho).1 h, hG _ _ h⟩
    · by_cases h : ∀ x ∈ l, ∀ y ∈ G x, y ∈ l
      · left
        intro x hx y hy
        have hx' : x ∈ l := by
          rcases rounds_mem.mp hx with q | ⟨o, ho, q⟩
          · exact q
          · exact h o ho x q
        exact rounds_mem.mpr (.inl (h x hx' y hy))
      · right
        rcases cl with cl | cl
        · exact absurd cl h
        · have : l.length < (roundG G l).length := by
            have ⟨x, hx⟩ := Classical.not_forall.mp h
            have ⟨hx, q⟩ := Classical.not_imp.mp hx
            have ⟨y, hy⟩ := Classical.not_forall.mp q
            have ⟨hy, hyl⟩ := Classical.not_imp.mp hy
            have := len_sub (l := y :: l) (m := roundG G l) (List.nodup_cons.mpr ⟨hyl, nd⟩) fun z hz => by
              rcases List.mem_cons.mp hz with e | hz
              · rw [e]; exact rounds_mem.mpr (.inr ⟨x, hx, hy⟩)
              · exact rounds_mem.mpr (.inl hz)
            simp at this
            omega
          omega
theorem ToList.sort {G : Nat → List Nat} {c : Nat} {l m : List Nat} (a : ToList G c l) (b : ToList G c m) : sortN l = sortN m := sortN_same a.nd b.nd fun x => (a.mem x).trans (b.mem x).symm
end L2.Pv

set_option Elab.async false
set_option linter.all false
set_option maxRecDepth 100000
set_option maxHeartbeats 4000000
set_option autoImplicit false
/-! Where cells lie to one another. -/
namespace L2.Pv
open PySem PySem.Spec PyProof.Rows

theorem beside_some {f : Fl} {c t : Nat} {s : Side} (h : f.beside c s = some t) : ∃ a d : Int, a = ((c % f.wide : Nat) : Int) + s.dx ∧ d = ((c / f.wide : Nat) : Int) + s.dy ∧ 0 ≤ a ∧ a < f.wide ∧ 0 ≤ d ∧ d < f.high ∧ d * f.wide + a = t ∧ f.at t ≠ .wall := by
  unfold Fl.beside at h
  dsimp only at h
  split at h
  · rename_i q
    obtain ⟨h1, h2, h3, h4⟩ := q
    refine ⟨_, _, rfl, rfl, h1, h2, h3, h4, ?_⟩
    have h0 := Int.mul_nonneg h3 (Int.natCast_nonneg f.wide)
    split at h
    · cases h
    · rename_i hw
      cases h
      exact ⟨by omega, hw⟩
  · cases h
theorem split_w {w : Nat} {a d a' d' : Int} (h1 : 0 ≤ a) (h2 : a < w) (h1' : 0 ≤ a') (h2' : a' < w) (h : d * w + a = d' * w + a') : d = d' ∧ a = a' := by
  have e1 : (d * w + a) / w = d := by rw [Int.add_comm, Int.add_mul_ediv_right _ _ (by omega), Int.ediv_eq_zero_of_lt h1 h2]; omega
  have e2 : (d' * w + a') / w = d' := by rw [Int.add_comm, Int.add_mul_ediv_right _ _ (by omega), Int.ediv_eq_zero_of_lt h1' h2']; omega
  have : d = d' := by rw [← e1, ← e2, h]
  subst this
  exact ⟨rfl, by omega⟩
theorem beside_inj {f : Fl} {c t : Nat} {s r : Side} (h : f.beside c s = some t) (k : f.beside c r = some t) : s = r := by
  obtain ⟨a, d, ea, ed, h1, h2, h3, h4, e, _⟩ := beside_some h
  obtain ⟨a', d', ea', ed', h1', h2', h3', h4', e', _⟩ := beside_some k
  obtain ⟨q1, q2⟩ := split_w h1 h2 h1' h2' (e.trans e'.symm)
  have x : s.dx = r.dx := by omega
  have y : s.dy = r.dy := by omega
  cases s <;> cases r <;> first | rfl | (exfalso; revert x y; simp [Side.pick])
def Side.opp : Side → Side
  | .n => .s | .e => .w | .s => .n | .w => .e
theorem opp_dx (s : Side) : s.opp.dx = -s.dx := by cases s <;> rfl
theorem opp_dy (s : Side) : s.opp.dy = -s.dy := by cases s <;> rfl
theorem beside_back {f : Fl} (ok : f.Ok) {c t : Nat} {s : Side} (hc : c < f.size) (hw : f.at c ≠ .wall) (h : f.beside c s = some t) : f.beside t s.opp = some c := by
  obtain ⟨a, d, ea, ed, h1, h2, h3, h4, e, _⟩ := beside_some h
  have w1 := ok.w1
  have hh : c / f.wide < f.high := by
    unfold Fl.size at hc
    rw [ok.len, Nat.mul_comm] at hc
    exact Nat.div_lt_of_lt_mul (by rw [Nat.mul_comm]; exact hc)
  have hm : c % f.wide < f.wide := Nat.mod_lt _ (by omega)
  have et : t = d.toNat * f.wide + a.toNat := by
    have : ((d.toNat * f.wide + a.toNat : Nat) : Int) = d * f.wide + a := by
      rw [Int.natCast_add, Int.natCast_mul, Int.toNat_of_nonneg h1, Int.toNat_of_nonneg h3]
    omega
  have tm : t % f.wide = a.toNat := by
    rw [et, Nat.add_comm, Nat.add_mul_mod_self_right, Nat.mod_eq_of_lt (by omega)]
  have td : t / f.wide = d.toNat := by
    rw [et, Nat.add_comm, Nat.add_mul_div_right _ _ (by omega), Nat.div_eq_of_lt (by omega), Nat.zero_add]
  unfold Fl.beside
  dsimp only
  rw [tm, td]
  have xa : ((a.toNat : Nat) : Int) + s.opp.dx = ((c % f.wide : Nat) : Int) := by
    have := opp_dx s; omega
  have xd : ((d.toNat : Nat) : Int) + s.opp.dy = ((c / f.wide : Nat) : Int) := by
    have := opp_dy s; omega
  rw [xa, xd]
  have hcc : ((c / f.wide : Nat) : Int) * (f.wide : Int) + ((c % f.wide : Nat) : Int) = c := by
    have := Nat.div_add_mod c f.wide
    rw [Nat.mul_comm] at this
    rw [← Int.natCast_mul, ← Int.natCast_add, this]
  rw [if_pos ⟨Int.natCast_nonneg _, Int.ofNat_lt.mpr hm, Int.natCast_nonneg _, Int.ofNat_lt.mpr hh⟩, hcc, Int.toNat_natCast, if_neg hw]
theorem outs_nd {c : Cell} (h : c.Ok) : c.outs.Nodup := by
  cases c with
  | parter s t => simp [Cell.outs]; exact h
  | _ => simp [Cell.outs]
theorem fm_nd {f : Fl} {c : Nat} : ∀ {l : List Side}, l.Nodup → (l.filterMap (f.beside c)).Nodup
  | [], _ => by simp
  | s :: l, h => by
    obtain ⟨h1, h2⟩ := List.nodup_cons.mp h
    have ih := fm_nd (f := f) (c := c) h2
    cases q : f.beside c s with
    | none => rw [List.filterMap_cons_none q]; exact ih
    | some t =>
      rw [List.filterMap_cons_some q]
      refine List.nodup_cons.mpr ⟨fun hm => ?_, ih⟩
      obtain ⟨r, hr, er⟩ := List.mem_filterMap.mp hm
      have := beside_inj q er
      subst this
      exact h1 hr
theorem goals_nd {f : Fl} (ok : f.Ok) (c : Nat) : (f.goals c).Nodup := fm_nd (outs_nd (Fl.at_ok ok c))
theorem comers_nd (f : Fl) (c : Nat) : (f.comers c).Nodup := (fm_nd (l := sides) (by decide)).filter _
theorem mem_comers {f : Fl} (ok : f.Ok) {c o : Nat} (ho : o < f.size) : o ∈ f.comers c ↔ c ∈ f.goals o := by
  constructor
  · intro h
    exact of_decide_eq_true (List.mem_filter.mp h).2
  · intro h
    refine List.mem_filter.mpr ⟨?_, decide_eq_true h⟩
    obtain ⟨s, hs, e⟩ := List.mem_filterMap.mp h
    have hw : f.at o ≠ .wall := fun q => by rw [q] at hs; simp [Cell.outs] at hs
    exact List.mem_filterMap.mpr ⟨s.opp, by cases s <;> decide, beside_back ok ho hw e⟩
/-- to go there is to come from there -/
theorem to_comers {f : Fl} (ok : f.Ok) {a b : Nat} (ha : a < f.size) (hb : b < f.size) : To f.comers a b ↔ To f.goals b a := by
  constructor
  · intro h
    induction h with
    | here => exact .here _
    | on h1 h2 ih =>
      have hlt := comers_lt ok h2
      have hm := To.lt (fun _ _ => comers_lt ok) ha h1
      exact To.trans (.on (.here _) ((mem_comers ok hlt).mp h2)) (ih hm)
  · intro h
    induction h with
    | here => exact .here _
    | on h1 h2 ih =>
      have hm := To.lt (fun _ _ => goals_lt ok) hb h1
      exact To.trans (.on (.here _) ((mem_comers ok hm).mpr h2)) (ih hm)
end L2.Pv

set_option Elab.async false
set_option linter.all false
set_option maxRecDepth 100000
set_option maxHeartbeats 4000000
set_option autoImplicit false
/-! Lists of numbers; enumerated cells. -/
namespace L2.Pv
open PySem PySem.Spec PyProof.Rows

theorem run_of {α σ : Type} {junk : List Nat} {gm : GM} {body : SM} {ds : List D} {ρ0 : Env} {X : Out} (hX : forD junk gm body ds ρ0 = X) (enc : α → D) (E : σ → Env) (step : σ → α → σ) (I : Nat → σ → Prop) (xs : List α) (s : σ) (hds : ds = xs.map enc) (hρ : ρ0 = E s) (hI : I 0 s)
    (h : ∀ i s x, xs[i]? = some x → I i s → turn junk (E s) (enc x) body gm = some (.inl (E (step s x))) ∧ I (i + 1) (step s x)) : X = .nx (E (xs.foldl step s)) ∧ I xs.length (xs.foldl step s) := by
  subst hX
  exact forD_run enc E step I xs s hds hρ hI h
theorem runR_of {α σ : Type} {junk : List Nat} {gm : GM} {body : SM} {ds : List D} {ρ0 : Env} {X : Out} (hX : forD junk gm body ds ρ0 = X) (enc : α → D) (E : σ → Env) (step : σ → α → Sum σ D) (I : Nat → σ → Prop) (xs : List α) (s : σ) (hds : ds = xs.map enc) (hρ : ρ0 = E s) (hI : I 0 s)
    (h : ∀ i s x, xs[i]? = some x → I i s → match step s x with
      | .inl s' => turn junk (E s) (enc x) body gm = some (.inl (E s')) ∧ I (i + 1) s'
      | .inr d => turn junk (E s) (enc x) body gm = some (.inr d)) :
    match foldR step xs s with
      | .inl s' => X = .nx (E s') ∧ I xs.length s'
      | .inr d => X = .rt d := by
  subst hX
  exact forD_runR enc E step I xs s hds hρ hI h
theorem wrun_of {σ : Type} {junk : List Nat} {p : TM} {body : SM} {n : Nat} {ρ : Env} {X : Out} (hX : whileD junk p body n ρ = X) (E : σ → Env) (cond : σ → Bool) (step : σ → σ) (meas : σ → Nat) (I : σ → Prop) (s : σ) (hρ : ρ = E s) (hI : I s) (hm : meas s < n)
    (hp : ∀ s, I s → p (E s) = .ok (cond s)) (hb : ∀ s, I s → cond s = true → (body (E s)).loop junk = some (.inl (E (step s))) ∧ I (step s) ∧ meas (step s) < meas s) :
    X = .nx (E (iterW cond step n s)) ∧ I (iterW cond step n s) ∧ cond (iterW cond step n s) = false := by
  subst hX hρ
  exact while_run E cond step meas I hp hb n s hI hm
theorem nats_inj {l m : List Nat} (h : nats l = nats m) : l = m := by
  unfold nats at h
  exact (List.map_inj_right fun a b e => by injection e with e; omega).mp h
theorem nats_cls : ∀ l : List Nat, D.cls (nats l) = true
  | [] => rfl
  | n :: l => by show (D.cl (.int n) && D.cls (nats l)) = true; rw [nats_cls l]; rfl
theorem nats_cl (l : List Nat) : D.cl (.lst (nats l)) = true := nats_cls l
theorem nats_sh1 (l : List Nat) : D.sh 1 (.lst (nats l)) = true := nats_sh 0 l
theorem nats_eq (l m : List Nat) : D.eq (.lst (nats l)) (.lst (nats m)) = some (.bl (decide (l = m))) := d_eq_cl (nats_cl l) (nats_cl m) (nats_sh1 l) (nats_sh1 m) (h := ⟨fun e => by injection e with e; exact nats_inj e, fun e => by rw [e]⟩)
theorem nats_ne (l m : List Nat) : D.ne (.lst (nats l)) (.lst (nats m)) = some (.bl (!decide (l = m))) := d_ne_cl (nats_cl l) (nats_cl m) (nats_sh1 l) (nats_sh1 m) (h := ⟨fun e => by injection e with e; exact nats_inj e, fun e => by rw [e]⟩)
def natss (ls : List (List Nat)) : List D := ls.map fun l => .lst (nats l)
theorem natss_sh2 (ls : List (List Nat)) : D.sh 2 (.lst (natss ls)) = true := by
  show (natss ls).all (D.sh 1) = true
  unfold natss
  rw [List.all_map, List.all_eq_true]
  exact fun l _ => nats_sh1 l
theorem natss_app (a b : List (List Nat)) : natss (a ++ b) = natss a ++ natss b := List.map_append
@[simp] theorem natss_len (l : List (List Nat)) : (natss l).length = l.length := List.length_map _
/-- the last one -/
def lastN (l : List Nat) : Nat := l.getD (l.length - 1) 0
theorem lastN_mem {l : List Nat} (h : l ≠ []) : lastN l ∈ l := getD_mem (by have := List.length_pos_iff.mpr h; omega)
theorem idx_last {l : List Nat} (h : l ≠ []) : D.idx (.lst (nats l)) (.int (-1)) = some (.int (lastN l)) := by
  have hp := List.length_pos_iff.mpr h
  show atI (nats l) (-1) = _
  unfold atI ixN
  rw [if_neg (by decide), if_pos (by rw [nats_len]; omega), nats_len]
  show (nats l)[((-1 : Int) + (l.length : Int)).toNat]? = _
  rw [show ((-1 : Int) + (l.length : Int)).toNat = l.length - 1 from by omega]
  refine nats_get ?_
  unfold lastN
  rw [List.getD_eq_getElem?_getD, List.getElem?_eq_getElem (by omega)]
  rfl
def minN (l : List Nat) : Nat := (minI (castL l)).toNat
theorem castL_ne {l : List Nat} (h : l ≠ []) : castL l ≠ [] := fun e => h (List.map_eq_nil_iff.mp e)
theorem minI_nn {l : List Nat} (h : l ≠ []) : 0 ≤ minI (castL l) := by
  obtain ⟨n, _, e⟩ := List.mem_map.mp (minI_ok (castL l) (castL_ne h)).1
  rw [← e]; exact Int.natCast_nonneg _
theorem min_nats {l : List Nat} (h : l ≠ []) : bMin [.lst (nats l)] = some (.int (minN l)) := by
  show (D.ints (nats l)).bind _ = _
  rw [ints_nats]
  show (if 0 < (castL l).length then _ else _) = _
  rw [if_pos (List.length_pos_iff.mpr (castL_ne h))]
  unfold minN
  rw [Int.toNat_of_nonneg (minI_nn h)]
theorem range_get' {n i x : Nat} (h : (List.range n)[i]? = some x) : i < n ∧ x = i := by
  have hi : i < n := by have := (List.getElem?_eq_some_iff.mp h).1; simpa using this
  rw [List.getElem?_range hi] at h
  cases h
  exact ⟨hi, rfl⟩
theorem enum_cells (f : Fl) : enumL 0 (f.cells.map Cell.enc) = (List.range f.size).map fun i : Nat => D.tup [.int i, (f.at i).enc] := by
  apply List.ext_getElem?
  intro i
  rw [enumL_get, List.getElem?_map, List.getElem?_map, Nat.zero_add]
  by_cases h : i < f.size
  · rw [Fl.get h, List.getElem?_range h]; rfl
  · rw [List.getElem?_eq_none (show f.cells.length ≤ i from by unfold Fl.size at h; omega), List.getElem?_eq_none (by simpa using h)]; rfl
/-- what is come to from c, sorted -/
def allFrom (G : Nat → List Nat) (c : Nat) : List Nat := sortN (iterW bfsCond (bfsStep G) 100000 ([c], 0)).1
def Fl.lostStep (f : Fl) (l : List Nat) (c : Nat) : List Nat := if f.at c ≠ .wall ∧ (allFrom f.goals c).filter (fun x => decide (f.at x = .fin)) = [] then l ++ [c] else l
def Fl.lost (f : Fl) : List Nat := (List.range f.size).foldl f.lostStep []
/-! a way on from a cell as long as there is one way, to a new cell -/
def ringCond (G : Nat → List Nat) (p : List Nat) : Bool := decide ((G (lastN p)).length = 1) && !decide ((G (lastN p)).getD 0 0 ∈ p)
def ringStep (G : Nat → List Nat) (p : List Nat) : List Nat := p ++ [(G (lastN p)).getD 0 0]
def ringPath (G : Nat → List Nat) (c : Nat) : List Nat := iterW (ringCond G) (ringStep G) 100000 [c]
structure RingOk (n : Nat) (p : List Nat) : Prop where
  nd : p.Nodup
  lt : ∀ x ∈ p, x < n
  ne : p ≠ []
theorem ring_step {G : Nat → List Nat} {n : Nat} (hG : ∀ a b, b ∈ G a → b < n) {p : List Nat} (h : RingOk n p) (hc : ringCond G p = true) : RingOk n (ringStep G p) := by
  obtain ⟨h1, h2⟩ := Bool.and_eq_true_iff.mp hc
  have h1 := of_decide_eq_true h1
  have h2 : (G (lastN p)).getD 0 0 ∉ p := by simpa using h2
  have hm : (G (lastN p)).getD 0 0 ∈ G (lastN p) := getD_mem (by omega)
  unfold ringStep
  refine ⟨List.nodup_append.mpr ⟨h.nd, by simp, fun a ha b hb e => ?_⟩, fun x hx => ?_, by simp⟩
  · rw [List.mem_singleton.mp hb] at e
    subst e
    exact h2 ha
  · rcases List.mem_append.mp hx with hx | hx
    · exact h.lt x hx
    · rw [List.mem_singleton.mp hx]; exact hG _ _ hm
def ringAdd (G : Nat → List Nat) (l : List (List Nat)) (c : Nat) : List (List Nat) := if G (lastN (ringPath G c)) = [c] ∧ c = minN (ringPath G c) then l ++ [ringPath G c] else l
def Fl.rings (f : Fl) : List (List Nat) := (List.range f.size).foldl (ringAdd f.goals) []
end L2.Pv

set_option Elab.async false
set_option linter.all false
set_option maxRecDepth 100000
set_option maxHeartbeats 4000000
set_option autoImplicit false
namespace L2.Pv.Lw
open PySem PySem.Spec PyProof.Rows
def top (i : Nat) : Stmt := PySem.Challenge.pw_beltturns_k06_ways.main.body.getD i (.Pass ⟨0, 0, 0, 0⟩)
def excs : List Str := ["BadCell", "BadCount", "BadFloor", "BadState", "BadText", "TooLong"]
def subX (c h : Str) : Bool := decide (c = h) || decide (h = "BeltError")
/-- a def that the top has made -/
def FD (K : PySem.W.Frag) (x : Str) (st : Stmt) : Prop := ∃ fd, FunD K x x (defArgs st) (defBody st) (defScope st) [] [] (He.fAd K (x, none)) fd
/-- what the top has left -/
structure Txt (K : PySem.W.Frag) (mg : Str → Option Value) : Prop where
  m_bool : mg "bool" = none
  m_enumerate : mg "enumerate" = none
  m_int : mg "int" = none
  m_isinstance : mg "isinstance" = none
  m_len : mg "len" = none
  m_list : mg "list" = none
  m_min : mg "min" = none
  m_range : mg "range" = none
  m_sorted : mg "sorted" = none
  m_str : mg "str" = none
  m_tuple : mg "tuple" = none
  c_MOST_HIGH : ∃ t, mg "MOST_HIGH" = some (.int 5 t)
  c_MOST_WAIT : ∃ t, mg "MOST_WAIT" = some (.int 5 t)
  c_MOST_WIDE : ∃ t, mg "MOST_WIDE" = some (.int 6 t)
  c_SIDES : GTup K mg "SIDES" [.str "n", .str "e", .str "s", .str "w"]
  x_BadCell : ExF K mg "BadCell"
  x_BadCount : ExF K mg "BadCount"
  x_BadFloor : ExF K mg "BadFloor"
  x_BadState : ExF K mg "BadState"
  x_BadText : ExF K mg "BadText"
  x_TooLong : ExF K mg "TooLong"
  sub : SubOk K mg subX excs
section
variable {P : Program} {w : World} {K : PySem.W.Frag} {mg : Str → Option Value} {base : Heap}
/-! ### _law_cell -/
abbrev s__law_cell : Stmt := top 56
theorem sc__law_cell : FnScope ["_law_script", "_law_k"] ["_law_script", "_law_k"] (defScope s__law_cell) := ⟨rfl, rfl, rfl, by decide +kernel, rfl, by decide +kernel, by decide +kernel⟩
def b__law_cell : SM := (sSeq (sIf (tOf (eOp D.lt (eV 1) (eBf bLen [(eV 0)]))) (sRet (eOp D.idx (eV 0) (eV 1))) (fun ρ => Out.nx ρ)) (sRet (eK (.int 0))))
def f__law_cell : List D → R D := runM 2 b__law_cell
def d__law_cell : He.DefD := ⟨("_law_cell", none), "_law_cell", "_law_cell", defArgs s__law_cell, defBody s__law_cell, defScope s__law_cell, [], []⟩
theorem ok__law_cell (T : Txt K mg) (F : FD K "_law_cell" s__law_cell) (hm : mg "_law_cell" = some (.ref (He.fAd K ("_law_cell", none))))  : Fn K mg P w base "_law_cell" 2 1 f__law_cell := by
  obtain ⟨fd, F⟩ := F
  have SC := sc__law_cell
  exact fn_mk (N := ["_law_script", "_law_k"]) (ps := ["_law_script", "_law_k"]) F hm sc__law_cell rfl (fun _ _ _ _ _ _ us hl => match us, hl with | [_, _], _ => rfl) fun cdv A outer s H E F0 hr tk hp => (sm_cons (sm_if (tm_cmp opm_lt (PEm.bo (em_v 1 rfl (.inl rfl))) (PEm.bo (em_bf cm_len rfl T.m_len PySem.boot_len (ab_cons (PEm.bo (em_v 0 rfl (.inl rfl))) ab_nil))) (nomark _)) (sm_one (sm_ret (em_idx (hu65 hr) (PEm.bo (em_v 0 rfl (.inl rfl))) (PEm.bo (em_v 1 rfl (.inl rfl)))))) sm_nil) (sm_one (sm_ret em_int)))
/-! ### _law_seed -/
abbrev s__law_seed : Stmt := top 57
theorem sc__law_seed : FnScope ["_law_seed_here", "_law_k"] ["_law_seed_here", "_law_k"] (defScope s__law_seed) := ⟨rfl, rfl, rfl, by decide +kernel, rfl, by decide +kernel, by decide +kernel⟩
def b__law_seed : SM := (sRet (eOp D.mod (eOp D.pow (eOp D.mod (eOp D.add (eOp D.add (eOp D.mul (eV 0) (eK (.int 1103515245))) (eOp D.mul (eK (.int 7919)) (eV 1))) (eK (.int 12345))) (eK (.int 2147483647))) (eK (.int 5))) (eK (.int 2147483647))))
def f__law_seed : List D → R D := runM 2 b__law_seed
def d__law_seed : He.DefD := ⟨("_law_seed", none), "_law_seed", "_law_seed", defArgs s__law_seed, defBody s__law_seed, defScope s__law_seed, [], []⟩
theorem ok__law_seed (T : Txt K mg) (F : FD K "_law_seed" s__law_seed) (hm : mg "_law_seed" = some (.ref (He.fAd K ("_law_seed", none))))  : Fn K mg P w base "_law_seed" 2 1 f__law_seed := by
  obtain ⟨fd, F⟩ := F
  have SC := sc__law_seed
  exact fn_mk (N := ["_law_seed_here", "_law_k"]) (ps := ["_law_seed_here", "_law_k"]) F hm sc__law_seed rfl (fun _ _ _ _ _ _ us hl => match us, hl with | [_, _], _ => rfl) fun cdv A outer s H E F0 hr tk hp => (sm_one (sm_ret (em_bin opm_mod (PEm.bo (em_bin opm_pow (PEm.bo (em_bin opm_mod (PEm.bo (em_bin opm_add (PEm.bo (em_bin opm_add (PEm.bo (em_bin opm_mul (PEm.bo (em_v 0 rfl (.inl rfl))) (PEm.bo em_int))) (PEm.bo (em_bin opm_mul (PEm.bo em_int) (PEm.bo (em_v 1 rfl (.inl rfl))))))) (PEm.bo em_int))) (PEm.bo em_int))) (PEm.bo em_int))) (PEm.bo em_int))))
/-! ### _law_pick -/
abbrev s__law_pick : Stmt := top 58
theorem sc__law_pick : FnScope ["_law_seed_here", "_law_many"] ["_law_seed_here", "_law_many"] (defScope s__law_pick) := ⟨rfl, rfl, rfl, by decide +kernel, rfl, by decide +kernel, by decide +kernel⟩
def b__law_pick : SM := (sRet (eOp D.mod (eOp D.fdiv (eV 0) (eK (.int 97))) (eV 1)))
def f__law_pick : List D → R D := runM 2 b__law_pick
def d__law_pick : He.DefD := ⟨("_law_pick", none), "_law_pick", "_law_pick", defArgs s__law_pick, defBody s__law_pick, defScope s__law_pick, [], []⟩
theorem ok__law_pick (T : Txt K mg) (F : FD K "_law_pick" s__law_pick) (hm : mg "_law_pick" = some (.ref (He.fAd K ("_law_pick", none))))  : Fn K mg P w base "_law_pick" 2 1 f__law_pick := by
  obtain ⟨fd, F⟩ := F
  have SC := sc__law_pick
  exact fn_mk (N := ["_law_seed_here", "_law_many"]) (ps := ["_law_seed_here", "_law_many"]) F hm sc__law_pick rfl (fun _ _ _ _ _ _ us hl => match us, hl with | [_, _], _ => rfl) fun cdv A outer s H E F0 hr tk hp => (sm_one (sm_ret (em_bin opm_mod (PEm.bo (em_bin opm_fdiv (PEm.bo (em_v 0 rfl (.inl rfl))) (PEm.bo em_int))) (PEm.bo (em_v 1 rfl (.inl rfl))))))
/-! ### _law_cell_of -/
abbrev s__law_cell_of : Stmt := top 59
theorem sc__law_cell_of : FnScope ["_law_seed_here", "_law_side", "_law_other", "_law_pick_here"] ["_law_seed_here", "_law_side"] (defScope s__law_cell_of) := ⟨rfl, rfl, rfl, by decide +kernel, rfl, by decide +kernel, by decide +kernel⟩
def b__law_cell_of : SM := (sSeq (sSet 2 (eOp D.idx (eK (.str "nesw")) (eOp D.mod (eOp D.fdiv (eV 0) (eK (.int 7))) (eK (.int 4))))) (sSeq (sSet 3 (eCall f__law_pick [(eV 0), (eK (.int 12))])) (sSeq (sIf (tOf (eOp D.lt (eV 3) (eK (.int 6)))) (sRet (eTup [(eK (.str "belt")), (eIf (tOf (eOp D.gt (eOp D.mod (eOp D.fdiv (eV 0) (eK (.int 11))) (eK (.int 4))) (eK (.int 0)))) (eV 1) (eV 2))])) (fun ρ => Out.nx ρ)) (sSeq (sIf (tOf (eOp D.eq (eV 3) (eK (.int 6)))) (sRet (eTup [(eK (.str "wall"))])) (fun ρ => Out.nx ρ)) (sSeq (sIf (tOf (eOp D.lt (eV 3) (eK (.int 9)))) (sRet (eTup [(eK (.str "well")), (eV 1), (eOp D.idx (eK (.str "abc")) (eOp D.mod (eOp D.fdiv (eV 0) (eK (.int 13))) (eK (.int 3)))), (eOp D.add (eK (.int 1)) (eOp D.mod (eOp D.fdiv (eV 0) (eK (.int 17))) (eK (.int 5))))])) (fun ρ => Out.nx ρ)) (sSeq (sIf (tOf (eOp D.eq (eV 3) (eK (.int 9)))) (sRet (eTup [(eK (.str "end"))])) (fun ρ => Out.nx ρ)) (sRet (eTup [(eK (.str "parter")), (eV 1), (eOp D.idx (eK (.str "nesw")) (eOp D.mod (eOp D.add (eOp D.add (eMet D.isStr mIndexS (eK (.str "nesw")) [(eV 1)]) (eK (.int 1))) (eOp D.mod (eOp D.fdiv (eV 0) (eK (.int 19))) (eK (.int 3)))) (eK (.int 4))))]))))))))
def f__law_cell_of : List D → R D := runM 4 b__law_cell_of
def d__law_cell_of : He.DefD := ⟨("_law_cell_of", none), "_law_cell_of", "_law_cell_of", defArgs s__law_cell_of, defBody s__law_cell_of, defScope s__law_cell_of, [], []⟩
theorem ok__law_cell_of (T : Txt K mg) (F : FD K "_law_cell_of" s__law_cell_of) (hm : mg "_law_cell_of" = some (.ref (He.fAd K ("_law_cell_of", none)))) (G__law_pick : Fn K mg P w base "_law_pick" 2 1 f__law_pick) : Fn K mg P w base "_law_cell_of" 2 2 f__law_cell_of := by
  obtain ⟨fd, F⟩ := F
  have SC := sc__law_cell_of
  exact fn_mk (N := ["_law_seed_here", "_law_side", "_law_other", "_law_pick_here"]) (ps := ["_law_seed_here", "_law_side"]) F hm sc__law_cell_of rfl (fun _ _ _ _ _ _ us hl => match us, hl with | [_, _], _ => rfl) fun cdv A outer s H E F0 hr tk hp => (sm_cons (sm_set (i := 2) SC.nd rfl (.inl rfl) (em_idx (hu65 hr) (PEm.bo em_str) (PEm.bo (em_bin opm_mod (PEm.bo (em_bin opm_fdiv (PEm.bo (em_v 0 rfl (.inl rfl))) (PEm.bo em_int))) (PEm.bo em_int))))) (sm_cons (sm_set (i := 3) SC.nd rfl (.inl rfl) (em_call G__law_pick hr (by decide) tk rfl (am_cons (em_v 0 rfl (.inl rfl)) (am_cons em_int am_nil)))) (sm_cons (sm_if (tm_cmp opm_lt (PEm.bo (em_v 3 rfl (.inl rfl))) (PEm.bo em_int) (nomark _)) (sm_one (sm_ret (em_tup (am_cons em_str (am_cons (em_if (tm_cmp opm_gt (PEm.bo (em_bin opm_mod (PEm.bo (em_bin opm_fdiv (PEm.bo (em_v 0 rfl (.inl rfl))) (PEm.bo em_int))) (PEm.bo em_int))) (PEm.bo em_int) (nomark _)) (em_v 1 rfl (.inl rfl)) (em_v 2 rfl (.inl rfl))) am_nil))))) sm_nil) (sm_cons (sm_if (tm_cmp (opm_eq hr.units) (PEm.bo (em_v 3 rfl (.inl rfl))) (PEm.bo em_int) (nomark _)) (sm_one (sm_ret (em_tup (am_cons em_str am_nil)))) sm_nil) (sm_cons (sm_if (tm_cmp opm_lt (PEm.bo (em_v 3 rfl (.inl rfl))) (PEm.bo em_int) (nomark _)) (sm_one (sm_ret (em_tup (am_cons em_str (am_cons (em_v 1 rfl (.inl rfl)) (am_cons (em_idx (hu65 hr) (PEm.bo em_str) (PEm.bo (em_bin opm_mod (PEm.bo (em_bin opm_fdiv (PEm.bo (em_v 0 rfl (.inl rfl))) (PEm.bo em_int))) (PEm.bo em_int)))) (am_cons (em_bin opm_add (PEm.bo em_int) (PEm.bo (em_bin opm_mod (PEm.bo (em_bin opm_fdiv (PEm.bo (em_v 0 rfl (.inl rfl))) (PEm.bo em_int))) (PEm.bo em_int)))) am_nil))))))) sm_nil) (sm_cons (sm_if (tm_cmp (opm_eq hr.units) (PEm.bo (em_v 3 rfl (.inl rfl))) (PEm.bo em_int) (nomark _)) (sm_one (sm_ret (em_tup (am_cons em_str am_nil)))) sm_nil) (sm_one (sm_ret (em_tup (am_cons em_str (am_cons (em_v 1 rfl (.inl rfl)) (am_cons (em_idx (hu65 hr) (PEm.bo em_str) (PEm.bo (em_bin opm_mod (PEm.bo (em_bin opm_add (PEm.bo (em_bin opm_add (PEm.bo (em_met isStr_ty PySem.F.plainAttrs_str PySem.F.slot_str_index PySem.F.type_str_index mm_indexS (PEm.bo em_str) (ab_cons (PEm.bo (em_v 1 rfl (.inl rfl))) ab_nil))) (PEm.bo em_int))) (PEm.bo (em_bin opm_mod (PEm.bo (em_bin opm_fdiv (PEm.bo (em_v 0 rfl (.inl rfl))) (PEm.bo em_int))) (PEm.bo em_int))))) (PEm.bo em_int)))) am_nil))))))))))))
/-! ### _law_floor -/
abbrev s__law_floor : Stmt := top 60
theorem sc__law_floor : FnScope ["_law_script", "_law_first", "_law_wide", "_law_high", "_law_cells", "_law_down", "_law_across", "_law_side", "_law_seed_here", "_law_thing"] ["_law_script", "_law_first"] (defScope s__law_floor) := ⟨rfl, rfl, rfl, by decide +kernel, rfl, by decide +kernel, by decide +kernel⟩
def b__law_floor : SM := (sSeq (sPar2 2 3 (eOp D.add (eK (.int 1)) (eOp D.mod (eCall f__law_cell [(eV 0), (eV 1)]) (eK (.int 6)))) (eOp D.add (eK (.int 1)) (eOp D.mod (eCall f__law_cell [(eV 0), (eOp D.add (eV 1) (eK (.int 1)))]) (eK (.int 5))))) (sSeq (sSetF 4 (eLst [])) (sSeq (sFor [5, 6, 7, 8, 9] (gOne 5) (iBf rg1 [(eV 3)]) (sFor [6, 7, 8, 9] (gOne 6) (iBf rg1 [(eV 2)]) (sSeq (sSet 7 (eOp D.idx (eLst [(eK (.str "e")), (eK (.str "w"))]) (eOp D.mod (eV 5) (eK (.int 2))))) (sSeq (sIf (tOf (eOp D.eq (eV 6) (eOp D.idx (eLst [(eOp D.sub (eV 2) (eK (.int 1))), (eK (.int 0))]) (eOp D.mod (eV 5) (eK (.int 2)))))) (sSet 7 (eK (.str "s"))) (fun ρ => Out.nx ρ)) (sSeq (sSet 8 (eCall f__law_seed [(eOp D.add (eCall f__law_cell [(eV 0), (eOp D.add (eV 1) (eK (.int 2)))]) (eOp D.mul (eK (.int 41)) (eOp D.add (eOp D.mul (eV 5) (eV 2)) (eV 6)))), (eV 6)])) (sSeq (sSet 9 (eCall f__law_cell_of [(eV 8), (eV 7)])) (sSeq (sIf (tAndM (tOf (eOp D.eq (eOp D.mod (eCall f__law_cell [(eV 0), (eOp D.add (eV 1) (eK (.int 3)))]) (eK (.int 3))) (eK (.int 0)))) (tOf (eOp D.gt (eOp D.mod (eOp D.fdiv (eV 8) (eK (.int 23))) (eK (.int 5))) (eK (.int 0))))) (sSet 9 (eTup [(eK (.str "belt")), (eV 7)])) (fun ρ => Out.nx ρ)) (sApp 4 (eV 9))))))))) (sSeq (sIf (tOf (eOp D.eq (eOp D.mod (eCall f__law_cell [(eV 0), (eOp D.add (eV 1) (eK (.int 3)))]) (eK (.int 2))) (eK (.int 0)))) (sSeq (sSub 4 (eK (.int 0)) (eTup [(eK (.str "well")), (eK (.str "e")), (eK (.str "a")), (eOp D.add (eK (.int 1)) (eOp D.mod (eOp D.fdiv (eCall f__law_cell [(eV 0), (eOp D.add (eV 1) (eK (.int 3)))]) (eK (.int 2))) (eK (.int 3))))])) (sSub 4 (eNeg (eK (.int 1))) (eTup [(eK (.str "end"))]))) (fun ρ => Out.nx ρ)) (sRet (eTup [(eV 2), (eV 3), (eBf bTuple [(eB 4)])]))))))
def f__law_floor : List D → R D := runM 10 b__law_floor
def d__law_floor : He.DefD := ⟨("_law_floor", none), "_law_floor", "_law_floor", defArgs s__law_floor, defBody s__law_floor, defScope s__law_floor, [], []⟩
theorem ok__law_floor (T : Txt K mg) (F : FD K "_law_floor" s__law_floor) (hm : mg "_law_floor" = some (.ref (He.fAd K ("_law_floor", none)))) (G__law_cell : Fn K mg P w base "_law_cell" 2 1 f__law_cell) (G__law_cell_of : Fn K mg P w base "_law_cell_of" 2 2 f__law_cell_of) (G__law_seed : Fn K mg P w base "_law_seed" 2 1 f__law_seed) : Fn K mg P w base "_law_floor" 2 3 f__law_floor := by
  obtain ⟨fd, F⟩ := F
  have SC := sc__law_floor
  exact fn_mk (N := ["_law_script", "_law_first", "_law_wide", "_law_high", "_law_cells", "_law_down", "_law_across", "_law_side", "_law_seed_here", "_law_thing"]) (ps := ["_law_script", "_law_first"]) F hm sc__law_floor rfl (fun _ _ _ _ _ _ us hl => match us, hl with | [_, _], _ => rfl) fun cdv A outer s H E F0 hr tk hp => (sm_cons (sm_par2 (i := 2) (j := 3) rfl SC.nd rfl rfl (by decide) rfl rfl (am_cons (em_bin opm_add (PEm.bo em_int) (PEm.bo (em_bin opm_mod (PEm.bo (em_call G__law_cell hr (by decide) tk rfl (am_cons (em_v 0 rfl (.inl rfl)) (am_cons (em_v 1 rfl (.inl rfl)) am_nil)))) (PEm.bo em_int)))) (am_cons (em_bin opm_add (PEm.bo em_int) (PEm.bo (em_bin opm_mod (PEm.bo (em_call G__law_cell hr (by decide) tk rfl (am_cons (em_v 0 rfl (.inl rfl)) (am_cons (em_bin opm_add (PEm.bo (em_v 1 rfl (.inl rfl))) (PEm.bo em_int)) am_nil)))) (PEm.bo em_int)))) am_nil)) rfl) (sm_cons (sm_setF (i := 4) SC.nd rfl (.inl rfl) (fm_lst am_nil)) (sm_cons (sm_for hp rfl (im_range1 rfl T.m_range (ab_cons (PEm.bo (em_v 3 rfl (.inl rfl))) ab_nil)) (gok_one 5) (pg_name (i := 5) SC.nd rfl (.inl rfl)) (fun _ => (sm_one (sm_for hp rfl (im_range1 rfl T.m_range (ab_cons (PEm.bo (em_v 2 rfl (.inl rfl))) ab_nil)) (gok_one 6) (pg_name (i := 6) SC.nd rfl (.inl rfl)) (fun _ => (sm_cons (sm_set (i := 7) SC.nd rfl (.inl rfl) (em_idx (hu65 hr) (PFm.bo (fm_lst (am_cons em_str (am_cons em_str am_nil)))) (PEm.bo (em_bin opm_mod (PEm.bo (em_v 5 rfl (.inl rfl))) (PEm.bo em_int))))) (sm_cons (sm_if (tm_cmp (opm_eq hr.units) (PEm.bo (em_v 6 rfl (.inl rfl))) (PEm.bo (em_idx (hu65 hr) (PFm.bo (fm_lst (am_cons (em_bin opm_sub (PEm.bo (em_v 2 rfl (.inl rfl))) (PEm.bo em_int)) (am_cons em_int am_nil)))) (PEm.bo (em_bin opm_mod (PEm.bo (em_v 5 rfl (.inl rfl))) (PEm.bo em_int))))) (nomark _)) (sm_one (sm_set (i := 7) SC.nd rfl (.inl rfl) em_str)) sm_nil) (sm_cons (sm_set (i := 8) SC.nd rfl (.inl rfl) (em_call G__law_seed hr (by decide) tk rfl (am_cons (em_bin opm_add (PEm.bo (em_call G__law_cell hr (by decide) tk rfl (am_cons (em_v 0 rfl (.inl rfl)) (am_cons (em_bin opm_add (PEm.bo (em_v 1 rfl (.inl rfl))) (PEm.bo em_int)) am_nil)))) (PEm.bo (em_bin opm_mul (PEm.bo em_int) (PEm.bo (em_bin opm_add (PEm.bo (em_bin opm_mul (PEm.bo (em_v 5 rfl (.inl rfl))) (PEm.bo (em_v 2 rfl (.inl rfl))))) (PEm.bo (em_v 6 rfl (.inl rfl)))))))) (am_cons (em_v 6 rfl (.inl rfl)) am_nil)))) (sm_cons (sm_set (i := 9) SC.nd rfl (.inl rfl) (em_call G__law_cell_of hr (by decide) tk rfl (am_cons (em_v 8 rfl (.inl rfl)) (am_cons (em_v 7 rfl (.inl rfl)) am_nil)))) (sm_cons (sm_if (PWm.t (wm_and (tm_cmp (opm_eq hr.units) (PEm.bo (em_bin opm_mod (PEm.bo (em_call G__law_cell hr (by decide) tk rfl (am_cons (em_v 0 rfl (.inl rfl)) (am_cons (em_bin opm_add (PEm.bo (em_v 1 rfl (.inl rfl))) (PEm.bo em_int)) am_nil)))) (PEm.bo em_int))) (PEm.bo em_int) (nomark _)) (wm_and1 (tm_cmp opm_gt (PEm.bo (em_bin opm_mod (PEm.bo (em_bin opm_fdiv (PEm.bo (em_v 8 rfl (.inl rfl))) (PEm.bo em_int))) (PEm.bo em_int))) (PEm.bo em_int) (nomark _))))) (sm_one (sm_set (i := 9) SC.nd rfl (.inl rfl) (em_tup (am_cons em_str (am_cons (em_v 7 rfl (.inl rfl)) am_nil))))) sm_nil) (sm_one (sm_append 4 (em_v 9 rfl (.inl rfl)) rfl (.inl rfl))))))))))))) (sm_cons (sm_if (tm_cmp (opm_eq hr.units) (PEm.bo (em_bin opm_mod (PEm.bo (em_call G__law_cell hr (by decide) tk rfl (am_cons (em_v 0 rfl (.inl rfl)) (am_cons (em_bin opm_add (PEm.bo (em_v 1 rfl (.inl rfl))) (PEm.bo em_int)) am_nil)))) (PEm.bo em_int))) (PEm.bo em_int) (nomark _)) (sm_cons (sm_sub (i := 4) (hu65 hr) (em_tup (am_cons em_str (am_cons em_str (am_cons em_str (am_cons (em_bin opm_add (PEm.bo em_int) (PEm.bo (em_bin opm_mod (PEm.bo (em_bin opm_fdiv (PEm.bo (em_call G__law_cell hr (by decide) tk rfl (am_cons (em_v 0 rfl (.inl rfl)) (am_cons (em_bin opm_add (PEm.bo (em_v 1 rfl (.inl rfl))) (PEm.bo em_int)) am_nil)))) (PEm.bo em_int))) (PEm.bo em_int)))) am_nil))))) (PEm.bo em_int) rfl (.inl rfl)) (sm_one (sm_sub (i := 4) (hu65 hr) (em_tup (am_cons em_str am_nil)) (PEm.bo (em_neg (PEm.bo em_int))) rfl (.inl rfl)))) sm_nil) (sm_one (sm_ret (em_tup (am_cons (em_v 2 rfl (.inl rfl)) (am_cons (em_v 3 rfl (.inl rfl)) (am_cons (em_ty cm_tuple rfl T.m_tuple (by decide +kernel) (ab_cons (bm_v 4 rfl (.inl rfl)) ab_nil)) am_nil))))))))))
/-! ### _law_at_side -/
abbrev s__law_at_side : Stmt := top 61
theorem sc__law_at_side : FnScope ["_law_floor_here", "_law_cell_here", "_law_side", "_law_x", "_law_y"] ["_law_floor_here", "_law_cell_here", "_law_side"] (defScope s__law_at_side) := ⟨rfl, rfl, rfl, by decide +kernel, rfl, by decide +kernel, by decide +kernel⟩
def b__law_at_side : SM := (sSeq (sPar2 3 4 (eOp D.mod (eV 1) (eOp D.idx (eV 0) (eK (.int 0)))) (eOp D.fdiv (eV 1) (eOp D.idx (eV 0) (eK (.int 0))))) (sSeq (sAsg (gTupM [3, 4]) (eOp D.idx (eDisp [((eK (.str "n")), (eTup [(eV 3), (eOp D.sub (eV 4) (eK (.int 1)))])), ((eK (.str "e")), (eTup [(eOp D.add (eV 3) (eK (.int 1))), (eV 4)])), ((eK (.str "s")), (eTup [(eV 3), (eOp D.add (eV 4) (eK (.int 1)))])), ((eK (.str "w")), (eTup [(eOp D.sub (eV 3) (eK (.int 1))), (eV 4)]))]) (eV 2))) (sSeq (sIf (tOrM (tOf (eOp D.lt (eV 3) (eK (.int 0)))) (tOrM (tOf (eOp D.lt (eV 4) (eK (.int 0)))) (tOrM (tOf (eOp D.ge (eV 3) (eOp D.idx (eV 0) (eK (.int 0))))) (tOrM (tOf (eOp D.ge (eV 4) (eOp D.idx (eV 0) (eK (.int 1))))) (tOf (eOp D.eq (eOp D.idx (eOp D.idx (eV 0) (eK (.int 2))) (eOp D.add (eOp D.mul (eV 4) (eOp D.idx (eV 0) (eK (.int 0)))) (eV 3))) (eTup [(eK (.str "wall"))]))))))) (sRet (eK .non)) (fun ρ => Out.nx ρ)) (sRet (eOp D.add (eOp D.mul (eV 4) (eOp D.idx (eV 0) (eK (.int 0)))) (eV 3))))))
def f__law_at_side : List D → R D := runM 5 b__law_at_side
def d__law_at_side : He.DefD := ⟨("_law_at_side", none), "_law_at_side", "_law_at_side", defArgs s__law_at_side, defBody s__law_at_side, defScope s__law_at_side, [], []⟩
theorem ok__law_at_side (T : Txt K mg) (F : FD K "_law_at_side" s__law_at_side) (hm : mg "_law_at_side" = some (.ref (He.fAd K ("_law_at_side", none))))  : Fn K mg P w base "_law_at_side" 3 1 f__law_at_side := by
  obtain ⟨fd, F⟩ := F
  have SC := sc__law_at_side
  exact fn_mk (N := ["_law_floor_here", "_law_cell_here", "_law_side", "_law_x", "_law_y"]) (ps := ["_law_floor_here", "_law_cell_here", "_law_side"]) F hm sc__law_at_side rfl (fun _ _ _ _ _ _ us hl => match us, hl with | [_, _, _], _ => rfl) fun cdv A outer s H E F0 hr tk hp => (sm_cons (sm_par2 (i := 3) (j := 4) rfl SC.nd rfl rfl (by decide) rfl rfl (am_cons (em_bin opm_mod (PEm.bo (em_v 1 rfl (.inl rfl))) (PEm.bo (em_idx (hu65 hr) (PEm.bo (em_v 0 rfl (.inl rfl))) (PEm.bo em_int)))) (am_cons (em_bin opm_fdiv (PEm.bo (em_v 1 rfl (.inl rfl))) (PEm.bo (em_idx (hu65 hr) (PEm.bo (em_v 0 rfl (.inl rfl))) (PEm.bo em_int)))) am_nil)) rfl) (sm_cons (sm_asg (em_idx (hu65 hr) (PFm.bo (fm_disp (.cons em_str (em_tup (am_cons (em_v 3 rfl (.inl rfl)) (am_cons (em_bin opm_sub (PEm.bo (em_v 4 rfl (.inl rfl))) (PEm.bo em_int)) am_nil))) (.cons em_str (em_tup (am_cons (em_bin opm_add (PEm.bo (em_v 3 rfl (.inl rfl))) (PEm.bo em_int)) (am_cons (em_v 4 rfl (.inl rfl)) am_nil))) (.cons em_str (em_tup (am_cons (em_v 3 rfl (.inl rfl)) (am_cons (em_bin opm_add (PEm.bo (em_v 4 rfl (.inl rfl))) (PEm.bo em_int)) am_nil))) (.cons em_str (em_tup (am_cons (em_bin opm_sub (PEm.bo (em_v 3 rfl (.inl rfl))) (PEm.bo em_int)) (am_cons (em_v 4 rfl (.inl rfl)) am_nil))) .nil)))))) (PEm.bo (em_v 2 rfl (.inl rfl)))) (gok_tup [3, 4]) (pg_tup rfl (pgs_cons (pg_name (i := 3) SC.nd rfl (.inl rfl)) (pgs_cons (pg_name (i := 4) SC.nd rfl (.inl rfl)) pgs_nil)))) (sm_cons (sm_if (PWm.t (wm_or (tm_cmp opm_lt (PEm.bo (em_v 3 rfl (.inl rfl))) (PEm.bo em_int) (nomark _)) (wm_or (tm_cmp opm_lt (PEm.bo (em_v 4 rfl (.inl rfl))) (PEm.bo em_int) (nomark _)) (wm_or (tm_cmp opm_ge (PEm.bo (em_v 3 rfl (.inl rfl))) (PEm.bo (em_idx (hu65 hr) (PEm.bo (em_v 0 rfl (.inl rfl))) (PEm.bo em_int))) (nomark _)) (wm_or (tm_cmp opm_ge (PEm.bo (em_v 4 rfl (.inl rfl))) (PEm.bo (em_idx (hu65 hr) (PEm.bo (em_v 0 rfl (.inl rfl))) (PEm.bo em_int))) (nomark _)) (wm_or1 (tm_cmp (opm_eq hr.units) (PEm.bo (em_idx (hu65 hr) (PEm.bo (em_idx (hu65 hr) (PEm.bo (em_v 0 rfl (.inl rfl))) (PEm.bo em_int))) (PEm.bo (em_bin opm_add (PEm.bo (em_bin opm_mul (PEm.bo (em_v 4 rfl (.inl rfl))) (PEm.bo (em_idx (hu65 hr) (PEm.bo (em_v 0 rfl (.inl rfl))) (PEm.bo em_int))))) (PEm.bo (em_v 3 rfl (.inl rfl))))))) (PEm.bo (em_tup (am_cons em_str am_nil))) (nomark _)))))))) (sm_one (sm_ret em_non)) sm_nil) (sm_one (sm_ret (em_bin opm_add (PEm.bo (em_bin opm_mul (PEm.bo (em_v 4 rfl (.inl rfl))) (PEm.bo (em_idx (hu65 hr) (PEm.bo (em_v 0 rfl (.inl rfl))) (PEm.bo em_int))))) (PEm.bo (em_v 3 rfl (.inl rfl)))))))))
/-! ### _law_goals -/
abbrev s__law_goals : Stmt := top 62
theorem sc__law_goals : FnScope ["_law_floor_here", "_law_cell_here", "_law_thing", "_law_sides", "_law_some", "_law_one", "_law_side"] ["_law_floor_here", "_law_cell_here"] (defScope s__law_goals) := ⟨rfl, rfl, rfl, by decide +kernel, rfl, by decide +kernel, by decide +kernel⟩
def b__law_goals : SM := (sSeq (sSet 2 (eOp D.idx (eOp D.idx (eV 0) (eK (.int 2))) (eV 1))) (sSeq (sSet 3 (eGet2 (eDisp [((eK (.str "belt")), (eSl (eV 2) (some (eK (.int 1))) (some (eK (.int 2))))), ((eK (.str "well")), (eSl (eV 2) (some (eK (.int 1))) (some (eK (.int 2))))), ((eK (.str "parter")), (eSl (eV 2) (some (eK (.int 1))) (some (eK (.int 3)))))]) (eOp D.idx (eV 2) (eK (.int 0))) (eTup []))) (sSeq (sSet 4 (eLc [6] (gOne 6) (iV (eV 3)) pYes (eCall f__law_at_side [(eV 0), (eV 1), (eV 6)]))) (sRet (eLc [5] (gOne 5) (iV (eV 4)) (tOf (eOp D.isNn (eV 5) (eK .non))) (eV 5))))))
def f__law_goals : List D → R D := runM 7 b__law_goals
def d__law_goals : He.DefD := ⟨("_law_goals", none), "_law_goals", "_law_goals", defArgs s__law_goals, defBody s__law_goals, defScope s__law_goals, [], []⟩
theorem ok__law_goals (T : Txt K mg) (F : FD K "_law_goals" s__law_goals) (hm : mg "_law_goals" = some (.ref (He.fAd K ("_law_goals", none)))) (G__law_at_side : Fn K mg P w base "_law_at_side" 3 1 f__law_at_side) : Fn K mg P w base "_law_goals" 2 2 f__law_goals := by
  obtain ⟨fd, F⟩ := F
  have SC := sc__law_goals
  exact fn_mk (N := ["_law_floor_here", "_law_cell_here", "_law_thing", "_law_sides", "_law_some", "_law_one", "_law_side"]) (ps := ["_law_floor_here", "_law_cell_here"]) F hm sc__law_goals rfl (fun _ _ _ _ _ _ us hl => match us, hl with | [_, _], _ => rfl) fun cdv A outer s H E F0 hr tk hp => (sm_cons (sm_set (i := 2) SC.nd rfl (.inl rfl) (em_idx (hu65 hr) (PEm.bo (em_idx (hu65 hr) (PEm.bo (em_v 0 rfl (.inr (.inl rfl)))) (PEm.bo em_int))) (PEm.bo (em_v 1 rfl (.inr (.inl rfl)))))) (sm_cons (sm_set (i := 3) SC.nd rfl (.inl rfl) (em_get2 (hu1 hr) (PFm.bo (fm_disp (.cons em_str (em_sl (PEm.bo (em_v 2 rfl (.inl rfl))) (om_some (PEm.bo em_int)) (om_some (PEm.bo em_int))) (.cons em_str (em_sl (PEm.bo (em_v 2 rfl (.inl rfl))) (om_some (PEm.bo em_int)) (om_some (PEm.bo em_int))) (.cons em_str (em_sl (PEm.bo (em_v 2 rfl (.inl rfl))) (om_some (PEm.bo em_int)) (om_some (PEm.bo em_int))) .nil))))) (PEm.bo (em_idx (hu65 hr) (PEm.bo (em_v 2 rfl (.inl rfl))) (PEm.bo em_int))) (em_tup am_nil) ⟨rfl, rfl, rfl, rfl⟩)) (sm_cons (sm_setLc (i := 4) (own := [("_law_side", 6)]) rfl SC.nd rfl rfl (sw_true rfl rfl rfl (by decide +kernel)) (im_any (em_v 3 rfl (.inl rfl))) (blkOk_by (own := [("_law_side", 6)]) (by with_unfolding_all rfl)) (gok_one 6) (fun _ _ _ _ _ => (pg_name (i := 6) SC.nd rfl (.inl rfl))) (fun _ _ _ _ _ => tsm_nil) (fun _ _ _ _ _ => (em_call G__law_at_side hr (by decide) takes0 rfl (am_cons (em_v 0 rfl (.inr (.inl rfl))) (am_cons (em_v 1 rfl (.inr (.inl rfl))) (am_cons (em_v 6 rfl (.inl rfl)) am_nil)))))) (sm_one (sm_ret (PFm.em (fm_lc (own := [("_law_one", 5)]) rfl SC.nd (im_any (em_v 4 rfl (.inl rfl))) (blkOk_by (own := [("_law_one", 5)]) (by with_unfolding_all rfl)) (gok_one 5) (fun _ _ _ _ _ => (pg_name (i := 5) SC.nd rfl (.inl rfl))) (fun _ _ _ _ _ => (tsm_one (tm_cmp opm_isNn (PEm.bo (em_v 5 rfl (.inl rfl))) (PEm.bo em_non) (nomark _)))) (fun _ _ _ _ _ => (em_v 5 rfl (.inl rfl))))))))))
/-! ### _law_comers -/
abbrev s__law_comers : Stmt := top 63
theorem sc__law_comers : FnScope ["_law_floor_here", "_law_cell_here", "_law_some", "_law_one", "_law_side"] ["_law_floor_here", "_law_cell_here"] (defScope s__law_comers) := ⟨rfl, rfl, rfl, by decide +kernel, rfl, by decide +kernel, by decide +kernel⟩
def b__law_comers : SM := (sSeq (sSet 2 (eLc [4] (gOne 4) (iV (eK (.str "nesw"))) pYes (eCall f__law_at_side [(eV 0), (eV 1), (eV 4)]))) (sRet (eLc [3] (gOne 3) (iV (eV 2)) (tAndM (tOf (eOp D.isNn (eV 3) (eK .non))) (tOf (eOp D.isIn (eV 1) (eCall f__law_goals [(eV 0), (eV 3)])))) (eV 3))))
def f__law_comers : List D → R D := runM 5 b__law_comers
def d__law_comers : He.DefD := ⟨("_law_comers", none), "_law_comers", "_law_comers", defArgs s__law_comers, defBody s__law_comers, defScope s__law_comers, [], []⟩
theorem ok__law_comers (T : Txt K mg) (F : FD K "_law_comers" s__law_comers) (hm : mg "_law_comers" = some (.ref (He.fAd K ("_law_comers", none)))) (G__law_at_side : Fn K mg P w base "_law_at_side" 3 1 f__law_at_side) (G__law_goals : Fn K mg P w base "_law_goals" 2 2 f__law_goals) : Fn K mg P w base "_law_comers" 2 3 f__law_comers := by
  obtain ⟨fd, F⟩ := F
  have SC := sc__law_comers
  exact fn_mk (N := ["_law_floor_here", "_law_cell_here", "_law_some", "_law_one", "_law_side"]) (ps := ["_law_floor_here", "_law_cell_here"]) F hm sc__law_comers rfl (fun _ _ _ _ _ _ us hl => match us, hl with | [_, _], _ => rfl) fun cdv A outer s H E F0 hr tk hp => (sm_cons (sm_setLc (i := 2) (own := [("_law_side", 4)]) rfl SC.nd rfl rfl (sw_true rfl rfl rfl (by decide +kernel)) (im_any em_str) (blkOk_by (own := [("_law_side", 4)]) (by with_unfolding_all rfl)) (gok_one 4) (fun _ _ _ _ _ => (pg_name (i := 4) SC.nd rfl (.inl rfl))) (fun _ _ _ _ _ => tsm_nil) (fun _ _ _ _ _ => (em_call G__law_at_side hr (by decide) takes0 rfl (am_cons (em_v 0 rfl (.inr (.inl rfl))) (am_cons (em_v 1 rfl (.inr (.inl rfl))) (am_cons (em_v 4 rfl (.inl rfl)) am_nil)))))) (sm_one (sm_ret (PFm.em (fm_lc (own := [("_law_one", 3)]) rfl SC.nd (im_any (em_v 2 rfl (.inl rfl))) (blkOk_by (own := [("_law_one", 3)]) (by with_unfolding_all rfl)) (gok_one 3) (fun _ _ _ _ _ => (pg_name (i := 3) SC.nd rfl (.inl rfl))) (fun _ _ _ _ _ => (tsm_one (PWm.t (wm_and (tm_cmp opm_isNn (PEm.bo (em_v 3 rfl (.inl rfl))) (PEm.bo em_non) (nomark _)) (wm_and1 (tm_cmp (opm_in (hu65 hr)) (PEm.bo (em_v 1 rfl (.inr (.inl rfl)))) (PEm.bo (em_call G__law_goals hr (by decide) takes0 rfl (am_cons (em_v 0 rfl (.inr (.inl rfl))) (am_cons (em_v 3 rfl (.inl rfl)) am_nil)))) (by with_unfolding_all rfl))))))) (fun _ _ _ _ _ => (em_v 3 rfl (.inl rfl))))))))
/-! ### _law_net -/
abbrev s__law_net : Stmt := top 64
theorem sc__law_net : FnScope ["_law_floor_here", "_law_cells", "_law_cell_here"] ["_law_floor_here"] (defScope s__law_net) := ⟨rfl, rfl, rfl, by decide +kernel, rfl, by decide +kernel, by decide +kernel⟩
def b__law_net : SM := (sSeq (sSet 1 (eLrng (eBf bLen [(eOp D.idx (eV 0) (eK (.int 2)))]))) (sRet (eTup [(eLc [2] (gOne 2) (iV (eV 1)) pYes (eCall f__law_goals [(eV 0), (eV 2)])), (eLc [2] (gOne 2) (iV (eV 1)) pYes (eCall f__law_comers [(eV 0), (eV 2)]))])))
def f__law_net : List D → R D := runM 3 b__law_net
def d__law_net : He.DefD := ⟨("_law_net", none), "_law_net", "_law_net", defArgs s__law_net, defBody s__law_net, defScope s__law_net, [], []⟩
theorem ok__law_net (T : Txt K mg) (F : FD K "_law_net" s__law_net) (hm : mg "_law_net" = some (.ref (He.fAd K ("_law_net", none)))) (G__law_comers : Fn K mg P w base "_law_comers" 2 3 f__law_comers) (G__law_goals : Fn K mg P w base "_law_goals" 2 2 f__law_goals) : Fn K mg P w base "_law_net" 1 4 f__law_net := by
  obtain ⟨fd, F⟩ := F
  have SC := sc__law_net
  exact fn_mk (N := ["_law_floor_here", "_law_cells", "_law_cell_here"]) (ps := ["_law_floor_here"]) F hm sc__law_net rfl (fun _ _ _ _ _ _ us hl => match us, hl with | [_], _ => rfl) fun cdv A outer s H E F0 hr tk hp => (sm_cons (sm_set (i := 1) SC.nd rfl (.inl rfl) (PFm.em (fm_lrng rfl rfl T.m_list rfl T.m_range (PEm.bo (em_bf cm_len rfl T.m_len PySem.boot_len (ab_cons (PEm.bo (em_idx (hu65 hr) (PEm.bo (em_v 0 rfl (.inr (.inl rfl)))) (PEm.bo em_int))) ab_nil)))))) (sm_one (sm_ret (em_tup (am_cons (PFm.em (fm_lc (own := [("_law_cell_here", 2)]) rfl SC.nd (im_any (em_v 1 rfl (.inl rfl))) (blkOk_by (own := [("_law_cell_here", 2)]) (by with_unfolding_all rfl)) (gok_one 2) (fun _ _ _ _ _ => (pg_name (i := 2) SC.nd rfl (.inl rfl))) (fun _ _ _ _ _ => tsm_nil) (fun _ _ _ _ _ => (em_call G__law_goals hr (by decide) takes0 rfl (am_cons (em_v 0 rfl (.inr (.inl rfl))) (am_cons (em_v 2 rfl (.inl rfl)) am_nil)))))) (am_cons (PFm.em (fm_lc (own := [("_law_cell_here", 2)]) rfl SC.nd (im_any (em_v 1 rfl (.inl rfl))) (blkOk_by (own := [("_law_cell_here", 2)]) (by with_unfolding_all rfl)) (gok_one 2) (fun _ _ _ _ _ => (pg_name (i := 2) SC.nd rfl (.inl rfl))) (fun _ _ _ _ _ => tsm_nil) (fun _ _ _ _ _ => (em_call G__law_comers hr (by decide) takes0 rfl (am_cons (em_v 0 rfl (.inr (.inl rfl))) (am_cons (em_v 2 rfl (.inl rfl)) am_nil)))))) am_nil))))))
/-! ### is_within -/
abbrev s_is_within : Stmt := top 13
theorem sc_is_within : FnScope ["thing", "low", "high"] ["thing", "low", "high"] (defScope s_is_within) := ⟨rfl, rfl, rfl, by decide +kernel, rfl, by decide +kernel, by decide +kernel⟩
def b_is_within : SM := (sRet (eAnd (eIsi "int" (eV 0)) (eAnd (eNot (eIsi "bool" (eV 0))) (eChain D.le D.le (eV 1) (eV 0) (eV 2)))))
def f_is_within : List D → R D := runM 3 b_is_within
def d_is_within : He.DefD := ⟨("is_within", none), "is_within", "is_within", defArgs s_is_within, defBody s_is_within, defScope s_is_within, [], []⟩
theorem ok_is_within (T : Txt K mg) (F : FD K "is_within" s_is_within) (hm : mg "is_within" = some (.ref (He.fAd K ("is_within", none))))  : Fn K mg P w base "is_within" 3 1 f_is_within := by
  obtain ⟨fd, F⟩ := F
  have SC := sc_is_within
  exact fn_mk (N := ["thing", "low", "high"]) (ps := ["thing", "low", "high"]) F hm sc_is_within rfl (fun _ _ _ _ _ _ us hl => match us, hl with | [_, _, _], _ => rfl) fun cdv A outer s H E F0 hr tk hp => (sm_one (sm_ret (em_and (em_isi (U := "int") kit_int rfl T.m_isinstance rfl T.m_int (by decide +kernel) (PEm.bo (em_v 0 rfl (.inl rfl)))) (em_and (em_not (PEm.bo (em_isi (U := "bool") kit_bool rfl T.m_isinstance rfl T.m_bool (by decide +kernel) (PEm.bo (em_v 0 rfl (.inl rfl)))))) (em_one (em_chain opm_le opm_le (PEm.bo (em_v 1 rfl (.inl rfl))) (PEm.bo (em_v 0 rfl (.inl rfl))) (PEm.bo (em_v 2 rfl (.inl rfl)))))))))
/-! ### is_side -/
abbrev s_is_side : Stmt := top 14
theorem sc_is_side : FnScope ["thing"] ["thing"] (defScope s_is_side) := ⟨rfl, rfl, rfl, by decide +kernel, rfl, by decide +kernel, by decide +kernel⟩
def b_is_side : SM := (sRet (eAnd (eIsi "str" (eV 0)) (eInK false [.str "n", .str "e", .str "s", .str "w"] (eV 0))))
def f_is_side : List D → R D := runM 1 b_is_side
def d_is_side : He.DefD := ⟨("is_side", none), "is_side", "is_side", defArgs s_is_side, defBody s_is_side, defScope s_is_side, [], []⟩
theorem ok_is_side (T : Txt K mg) (F : FD K "is_side" s_is_side) (hm : mg "is_side" = some (.ref (He.fAd K ("is_side", none))))  : Fn K mg P w base "is_side" 1 1 f_is_side := by
  obtain ⟨fd, F⟩ := F
  have SC := sc_is_side
  exact fn_mk (N := ["thing"]) (ps := ["thing"]) F hm sc_is_side rfl (fun _ _ _ _ _ _ us hl => match us, hl with | [_], _ => rfl) fun cdv A outer s H E F0 hr tk hp => (sm_one (sm_ret (em_and (em_isi (U := "str") kit_str rfl T.m_isinstance rfl T.m_str (by decide +kernel) (PEm.bo (em_v 0 rfl (.inl rfl)))) (em_one (em_inK (PEm.bo (em_v 0 rfl (.inl rfl))) rfl T.c_SIDES)))))
/-! ### is_kind -/
abbrev s_is_kind : Stmt := top 15
theorem sc_is_kind : FnScope ["thing"] ["thing"] (defScope s_is_kind) := ⟨rfl, rfl, rfl, by decide +kernel, rfl, by decide +kernel, by decide +kernel⟩
def b_is_kind : SM := (sRet (eAnd (eIsi "str" (eV 0)) (eAnd (eOp D.eq (eBf bLen [(eV 0)]) (eK (.int 1))) (eOp D.isIn (eV 0) (eK (.str "abc"))))))
def f_is_kind : List D → R D := runM 1 b_is_kind
def d_is_kind : He.DefD := ⟨("is_kind", none), "is_kind", "is_kind", defArgs s_is_kind, defBody s_is_kind, defScope s_is_kind, [], []⟩
theorem ok_is_kind (T : Txt K mg) (F : FD K "is_kind" s_is_kind) (hm : mg "is_kind" = some (.ref (He.fAd K ("is_kind", none))))  : Fn K mg P w base "is_kind" 1 1 f_is_kind := by
  obtain ⟨fd, F⟩ := F
  have SC := sc_is_kind
  exact fn_mk (N := ["thing"]) (ps := ["thing"]) F hm sc_is_kind rfl (fun _ _ _ _ _ _ us hl => match us, hl with | [_], _ => rfl) fun cdv A outer s H E F0 hr tk hp => (sm_one (sm_ret (em_and (em_isi (U := "str") kit_str rfl T.m_isinstance rfl T.m_str (by decide +kernel) (PEm.bo (em_v 0 rfl (.inl rfl)))) (em_and (em_cmp (opm_eq hr.units) (PEm.bo (em_bf cm_len rfl T.m_len PySem.boot_len (ab_cons (PEm.bo (em_v 0 rfl (.inl rfl))) ab_nil))) (PEm.bo em_int) (nomark _)) (em_one (em_cmp (opm_in (hu65 hr)) (PEm.bo (em_v 0 rfl (.inl rfl))) (PEm.bo em_str) (by with_unfolding_all rfl)))))))
/-! ### is_cell -/
abbrev s_is_cell : Stmt := top 16
theorem sc_is_cell : FnScope ["thing"] ["thing"] (defScope s_is_cell) := ⟨rfl, rfl, rfl, by decide +kernel, rfl, by decide +kernel, by decide +kernel⟩
def b_is_cell : SM := (sSeq (sIf (tOrM (tNotM (tTru (eIsi "tuple" (eV 0)))) (tOrM (tNotM (tTru (eV 0))) (tNotM (tTru (eIsi "str" (eOp D.idx (eV 0) (eK (.int 0)))))))) (sRet (eK (.bl false))) (fun ρ => Out.nx ρ)) (sSeq (sIf (tOf (eOp D.isIn (eOp D.idx (eV 0) (eK (.int 0))) (eTup [(eK (.str "wall")), (eK (.str "end"))]))) (sRet (eOp D.eq (eBf bLen [(eV 0)]) (eK (.int 1)))) (fun ρ => Out.nx ρ)) (sSeq (sIf (tOf (eOp D.eq (eOp D.idx (eV 0) (eK (.int 0))) (eK (.str "belt")))) (sRet (eAnd (eOp D.eq (eBf bLen [(eV 0)]) (eK (.int 2))) (eCall f_is_side [(eOp D.idx (eV 0) (eK (.int 1)))]))) (fun ρ => Out.nx ρ)) (sSeq (sIf (tOf (eOp D.eq (eOp D.idx (eV 0) (eK (.int 0))) (eK (.str "parter")))) (sRet (eAnd (eOp D.eq (eBf bLen [(eV 0)]) (eK (.int 3))) (eAnd (eCall f_is_side [(eOp D.idx (eV 0) (eK (.int 1)))]) (eAnd (eCall f_is_side [(eOp D.idx (eV 0) (eK (.int 2)))]) (eOp D.ne (eOp D.idx (eV 0) (eK (.int 1))) (eOp D.idx (eV 0) (eK (.int 2)))))))) (fun ρ => Out.nx ρ)) (sSeq (sIf (tOrM (tOf (eOp D.ne (eOp D.idx (eV 0) (eK (.int 0))) (eK (.str "well")))) (tOf (eOp D.ne (eBf bLen [(eV 0)]) (eK (.int 4))))) (sRet (eK (.bl false))) (fun ρ => Out.nx ρ)) (sRet (eAnd (eCall f_is_side [(eOp D.idx (eV 0) (eK (.int 1)))]) (eAnd (eCall f_is_kind [(eOp D.idx (eV 0) (eK (.int 2)))]) (eCall f_is_within [(eOp D.idx (eV 0) (eK (.int 3))), (eK (.int 1)), (eK (.int 5))])))))))))
def f_is_cell : List D → R D := runM 1 b_is_cell
def d_is_cell : He.DefD := ⟨("is_cell", none), "is_cell", "is_cell", defArgs s_is_cell, defBody s_is_cell, defScope s_is_cell, [], []⟩
theorem ok_is_cell (T : Txt K mg) (F : FD K "is_cell" s_is_cell) (hm : mg "is_cell" = some (.ref (He.fAd K ("is_cell", none)))) (G_is_kind : Fn K mg P w base "is_kind" 1 1 f_is_kind) (G_is_side : Fn K mg P w base "is_side" 1 1 f_is_side) (G_is_within : Fn K mg P w base "is_within" 3 1 f_is_within) : Fn K mg P w base "is_cell" 1 2 f_is_cell := by
  obtain ⟨fd, F⟩ := F
  have SC := sc_is_cell
  exact fn_mk (N := ["thing"]) (ps := ["thing"]) F hm sc_is_cell rfl (fun _ _ _ _ _ _ us hl => match us, hl with | [_], _ => rfl) fun cdv A outer s H E F0 hr tk hp => (sm_cons (sm_if (PWm.t (wm_or (tm_not (tm_tru (PEm.bo (em_isi (U := "tuple") kit_tuple rfl T.m_isinstance rfl T.m_tuple (by decide +kernel) (PEm.bo (em_v 0 rfl (.inl rfl))))))) (wm_or (tm_not (tm_tru (PEm.bo (em_v 0 rfl (.inl rfl))))) (wm_or1 (tm_not (tm_tru (PEm.bo (em_isi (U := "str") kit_str rfl T.m_isinstance rfl T.m_str (by decide +kernel) (PEm.bo (em_idx (hu65 hr) (PEm.bo (em_v 0 rfl (.inl rfl))) (PEm.bo em_int))))))))))) (sm_one (sm_ret em_bl)) sm_nil) (sm_cons (sm_if (tm_cmp (opm_in (hu65 hr)) (PEm.bo (em_idx (hu65 hr) (PEm.bo (em_v 0 rfl (.inl rfl))) (PEm.bo em_int))) (PEm.bo (em_tup (am_cons em_str (am_cons em_str am_nil)))) (by with_unfolding_all rfl)) (sm_one (sm_ret (em_cmp (opm_eq hr.units) (PEm.bo (em_bf cm_len rfl T.m_len PySem.boot_len (ab_cons (PEm.bo (em_v 0 rfl (.inl rfl))) ab_nil))) (PEm.bo em_int) (nomark _)))) sm_nil) (sm_cons (sm_if (tm_cmp (opm_eq hr.units) (PEm.bo (em_idx (hu65 hr) (PEm.bo (em_v 0 rfl (.inl rfl))) (PEm.bo em_int))) (PEm.bo em_str) (nomark _)) (sm_one (sm_ret (em_and (em_cmp (opm_eq hr.units) (PEm.bo (em_bf cm_len rfl T.m_len PySem.boot_len (ab_cons (PEm.bo (em_v 0 rfl (.inl rfl))) ab_nil))) (PEm.bo em_int) (nomark _)) (em_one (em_call G_is_side hr (by decide) tk rfl (am_cons (em_idx (hu65 hr) (PEm.bo (em_v 0 rfl (.inl rfl))) (PEm.bo em_int)) am_nil)))))) sm_nil) (sm_cons (sm_if (tm_cmp (opm_eq hr.units) (PEm.bo (em_idx (hu65 hr) (PEm.bo (em_v 0 rfl (.inl rfl))) (PEm.bo em_int))) (PEm.bo em_str) (nomark _)) (sm_one (sm_ret (em_and (em_cmp (opm_eq hr.units) (PEm.bo (em_bf cm_len rfl T.m_len PySem.boot_len (ab_cons (PEm.bo (em_v 0 rfl (.inl rfl))) ab_nil))) (PEm.bo em_int) (nomark _)) (em_and (em_call G_is_side hr (by decide) tk rfl (am_cons (em_idx (hu65 hr) (PEm.bo (em_v 0 rfl (.inl rfl))) (PEm.bo em_int)) am_nil)) (em_and (em_call G_is_side hr (by decide) tk rfl (am_cons (em_idx (hu65 hr) (PEm.bo (em_v 0 rfl (.inl rfl))) (PEm.bo em_int)) am_nil)) (em_one (em_cmp (opm_ne hr.units) (PEm.bo (em_idx (hu65 hr) (PEm.bo (em_v 0 rfl (.inl rfl))) (PEm.bo em_int))) (PEm.bo (em_idx (hu65 hr) (PEm.bo (em_v 0 rfl (.inl rfl))) (PEm.bo em_int))) (nomark _)))))))) sm_nil) (sm_cons (sm_if (PWm.t (wm_or (tm_cmp (opm_ne hr.units) (PEm.bo (em_idx (hu65 hr) (PEm.bo (em_v 0 rfl (.inl rfl))) (PEm.bo em_int))) (PEm.bo em_str) (nomark _)) (wm_or1 (tm_cmp (opm_ne hr.units) (PEm.bo (em_bf cm_len rfl T.m_len PySem.boot_len (ab_cons (PEm.bo (em_v 0 rfl (.inl rfl))) ab_nil))) (PEm.bo em_int) (nomark _))))) (sm_one (sm_ret em_bl)) sm_nil) (sm_one (sm_ret (em_and (em_call G_is_side hr (by decide) tk rfl (am_cons (em_idx (hu65 hr) (PEm.bo (em_v 0 rfl (.inl rfl))) (PEm.bo em_int)) am_nil)) (em_and (em_call G_is_kind hr (by decide) tk rfl (am_cons (em_idx (hu65 hr) (PEm.bo (em_v 0 rfl (.inl rfl))) (PEm.bo em_int)) am_nil)) (em_one (em_call G_is_within hr (by decide) tk rfl (am_cons (em_idx (hu65 hr) (PEm.bo (em_v 0 rfl (.inl rfl))) (PEm.bo em_int)) (am_cons em_int (am_cons (em_gint rfl T.c_MOST_WAIT) am_nil))))))))))))))
/-! ### is_floor -/
abbrev s_is_floor : Stmt := top 17
theorem sc_is_floor : FnScope ["thing", "one"] ["thing"] (defScope s_is_floor) := ⟨rfl, rfl, rfl, by decide +kernel, rfl, by decide +kernel, by decide +kernel⟩
def b_is_floor : SM := (sSeq (sIf (tOrM (tNotM (tTru (eIsi "tuple" (eV 0)))) (tOrM (tOf (eOp D.ne (eBf bLen [(eV 0)]) (eK (.int 3)))) (tNotM (tTru (eCall f_is_within [(eOp D.idx (eV 0) (eK (.int 0))), (eK (.int 1)), (eK (.int 6))]))))) (sRet (eK (.bl false))) (fun ρ => Out.nx ρ)) (sSeq (sIf (tOrM (tNotM (tTru (eCall f_is_within [(eOp D.idx (eV 0) (eK (.int 1))), (eK (.int 1)), (eK (.int 5))]))) (tNotM (tTru (eIsi "tuple" (eOp D.idx (eV 0) (eK (.int 2))))))) (sRet (eK (.bl false))) (fun ρ => Out.nx ρ)) (sRet (eAnd (eOp D.eq (eBf bLen [(eOp D.idx (eV 0) (eK (.int 2)))]) (eOp D.mul (eOp D.idx (eV 0) (eK (.int 0))) (eOp D.idx (eV 0) (eK (.int 1))))) (eNot (eLc [1] (gOne 1) (iV (eOp D.idx (eV 0) (eK (.int 2)))) (tNotM (tTru (eCall f_is_cell [(eV 1)]))) (eV 1)))))))
def f_is_floor : List D → R D := runM 2 b_is_floor
def d_is_floor : He.DefD := ⟨("is_floor", none), "is_floor", "is_floor", defArgs s_is_floor, defBody s_is_floor, defScope s_is_floor, [], []⟩
theorem ok_is_floor (T : Txt K mg) (F : FD K "is_floor" s_is_floor) (hm : mg "is_floor" = some (.ref (He.fAd K ("is_floor", none)))) (G_is_cell : Fn K mg P w base "is_cell" 1 2 f_is_cell) (G_is_within : Fn K mg P w base "is_within" 3 1 f_is_within) : Fn K mg P w base "is_floor" 1 3 f_is_floor := by
  obtain ⟨fd, F⟩ := F
  have SC := sc_is_floor
  exact fn_mk (N := ["thing", "one"]) (ps := ["thing"]) F hm sc_is_floor rfl (fun _ _ _ _ _ _ us hl => match us, hl with | [_], _ => rfl) fun cdv A outer s H E F0 hr tk hp => (sm_cons (sm_if (PWm.t (wm_or (tm_not (tm_tru (PEm.bo (em_isi (U := "tuple") kit_tuple rfl T.m_isinstance rfl T.m_tuple (by decide +kernel) (PEm.bo (em_v 0 rfl (.inl rfl))))))) (wm_or (tm_cmp (opm_ne hr.units) (PEm.bo (em_bf cm_len rfl T.m_len PySem.boot_len (ab_cons (PEm.bo (em_v 0 rfl (.inl rfl))) ab_nil))) (PEm.bo em_int) (nomark _)) (wm_or1 (tm_not (tm_tru (PEm.bo (em_call G_is_within hr (by decide) tk rfl (am_cons (em_idx (hu65 hr) (PEm.bo (em_v 0 rfl (.inl rfl))) (PEm.bo em_int)) (am_cons em_int (am_cons (em_gint rfl T.c_MOST_WIDE) am_nil))))))))))) (sm_one (sm_ret em_bl)) sm_nil) (sm_cons (sm_if (PWm.t (wm_or (tm_not (tm_tru (PEm.bo (em_call G_is_within hr (by decide) tk rfl (am_cons (em_idx (hu65 hr) (PEm.bo (em_v 0 rfl (.inl rfl))) (PEm.bo em_int)) (am_cons em_int (am_cons (em_gint rfl T.c_MOST_HIGH) am_nil))))))) (wm_or1 (tm_not (tm_tru (PEm.bo (em_isi (U := "tuple") kit_tuple rfl T.m_isinstance rfl T.m_tuple (by decide +kernel) (PEm.bo (em_idx (hu65 hr) (PEm.bo (em_v 0 rfl (.inl rfl))) (PEm.bo em_int)))))))))) (sm_one (sm_ret em_bl)) sm_nil) (sm_one (sm_ret (em_and (em_cmp (opm_eq hr.units) (PEm.bo (em_bf cm_len rfl T.m_len PySem.boot_len (ab_cons (PEm.bo (em_idx (hu65 hr) (PEm.bo (em_v 0 rfl (.inl rfl))) (PEm.bo em_int))) ab_nil))) (PEm.bo (em_bin opm_mul (PEm.bo (em_idx (hu65 hr) (PEm.bo (em_v 0 rfl (.inl rfl))) (PEm.bo em_int))) (PEm.bo (em_idx (hu65 hr) (PEm.bo (em_v 0 rfl (.inl rfl))) (PEm.bo em_int))))) (nomark _)) (em_one (em_not (PFm.bo (fm_lc (own := [("one", 1)]) rfl SC.nd (im_any (em_idx (hu65 hr) (PEm.bo (em_v 0 rfl (.inl rfl))) (PEm.bo em_int))) (blkOk_by (own := [("one", 1)]) (by with_unfolding_all rfl)) (gok_one 1) (fun _ _ _ _ _ => (pg_name (i := 1) SC.nd rfl (.inl rfl))) (fun _ _ _ _ _ => (tsm_one (tm_not (tm_tru (PEm.bo (em_call G_is_cell hr (by decide) takes0 rfl (am_cons (em_v 1 rfl (.inl rfl)) am_nil))))))) (fun _ _ _ _ _ => (em_v 1 rfl (.inl rfl))))))))))))
/-! ### look -/
abbrev s_look : Stmt := top 18
theorem sc_look : FnScope ["floor"] ["floor"] (defScope s_look) := ⟨rfl, rfl, rfl, by decide +kernel, rfl, by decide +kernel, by decide +kernel⟩
def b_look : SM := (sIf (tNotM (tTru (eCall f_is_floor [(eV 0)]))) (fun ρ => Out.rs "BadFloor" ρ) (fun ρ => Out.nx ρ))
def f_look : List D → R D := runM 1 b_look
def d_look : He.DefD := ⟨("look", none), "look", "look", defArgs s_look, defBody s_look, defScope s_look, [], []⟩
theorem ok_look (T : Txt K mg) (F : FD K "look" s_look) (hm : mg "look" = some (.ref (He.fAd K ("look", none)))) (G_is_floor : Fn K mg P w base "is_floor" 1 3 f_is_floor) : Fn K mg P w base "look" 1 4 f_look := by
  obtain ⟨fd, F⟩ := F
  have SC := sc_look
  exact fn_mk (N := ["floor"]) (ps := ["floor"]) F hm sc_look rfl (fun _ _ _ _ _ _ us hl => match us, hl with | [_], _ => rfl) fun cdv A outer s H E F0 hr tk hp => (sm_one (sm_if (tm_not (tm_tru (PEm.bo (em_call G_is_floor hr (by decide) tk rfl (am_cons (em_v 0 rfl (.inl rfl)) am_nil))))) (sm_one (sm_raiseX T.x_BadFloor rfl tk rfl)) sm_nil))
/-! ### look_cell -/
abbrev s_look_cell : Stmt := top 24
theorem sc_look_cell : FnScope ["floor", "cell"] ["floor", "cell"] (defScope s_look_cell) := ⟨rfl, rfl, rfl, by decide +kernel, rfl, by decide +kernel, by decide +kernel⟩
def b_look_cell : SM := (sSeq (sExpr (eCall f_look [(eV 0)])) (sIf (tNotM (tTru (eCall f_is_within [(eV 1), (eK (.int 0)), (eOp D.sub (eBf bLen [(eOp D.idx (eV 0) (eK (.int 2)))]) (eK (.int 1)))]))) (fun ρ => Out.rs "BadCell" ρ) (fun ρ => Out.nx ρ)))
def f_look_cell : List D → R D := runM 2 b_look_cell
def d_look_cell : He.DefD := ⟨("look_cell", none), "look_cell", "look_cell", defArgs s_look_cell, defBody s_look_cell, defScope s_look_cell, [], []⟩
theorem ok_look_cell (T : Txt K mg) (F : FD K "look_cell" s_look_cell) (hm : mg "look_cell" = some (.ref (He.fAd K ("look_cell", none)))) (G_is_within : Fn K mg P w base "is_within" 3 1 f_is_within) (G_look : Fn K mg P w base "look" 1 4 f_look) : Fn K mg P w base "look_cell" 2 5 f_look_cell := by
  obtain ⟨fd, F⟩ := F
  have SC := sc_look_cell
  exact fn_mk (N := ["floor", "cell"]) (ps := ["floor", "cell"]) F hm sc_look_cell rfl (fun _ _ _ _ _ _ us hl => match us, hl with | [_, _], _ => rfl) fun cdv A outer s H E F0 hr tk hp => (sm_cons (sm_expr (em_call G_look hr (by decide) tk rfl (am_cons (em_v 0 rfl (.inl rfl)) am_nil))) (sm_one (sm_if (tm_not (tm_tru (PEm.bo (em_call G_is_within hr (by decide) tk rfl (am_cons (em_v 1 rfl (.inl rfl)) (am_cons em_int (am_cons (em_bin opm_sub (PEm.bo (em_bf cm_len rfl T.m_len PySem.boot_len (ab_cons (PEm.bo (em_idx (hu65 hr) (PEm.bo (em_v 0 rfl (.inl rfl))) (PEm.bo em_int))) ab_nil))) (PEm.bo em_int)) am_nil))))))) (sm_one (sm_raiseX T.x_BadCell rfl tk rfl)) sm_nil)))
/-! ### all_from -/
abbrev s_all_from : Stmt := top 25
theorem sc_all_from : FnScope ["cell", "nexts", "found", "at", "one"] ["cell", "nexts"] (defScope s_all_from) := ⟨rfl, rfl, rfl, by decide +kernel, rfl, by decide +kernel, by decide +kernel⟩
def b_all_from : SM := (sSeq (sSetF 2 (eLst [(eV 0)])) (sSeq (sSet 3 (eK (.int 0))) (sSeq (sWhile 100000 [] (tOf (eOp D.lt (eV 3) (eBf bLen [(eB 2)]))) (sSeq (sExt 2 (eLc [4] (gOne 4) (iV (eOp D.idx (eV 1) (eOp D.idx (eB 2) (eV 3)))) (tOf (eOp D.notIn (eV 4) (eB 2))) (eV 4))) (sAug 3 D.addI (eK (.int 1))))) (sRet (eBf bSorted [(eB 2)])))))
def f_all_from : List D → R D := runM 5 b_all_from
def d_all_from : He.DefD := ⟨("all_from", none), "all_from", "all_from", defArgs s_all_from, defBody s_all_from, defScope s_all_from, [], []⟩
theorem ok_all_from (T : Txt K mg) (F : FD K "all_from" s_all_from) (hm : mg "all_from" = some (.ref (He.fAd K ("all_from", none))))  : Fn K mg P w base "all_from" 2 1 f_all_from := by
  obtain ⟨fd, F⟩ := F
  have SC := sc_all_from
  exact fn_mk (N := ["cell", "nexts", "found", "at", "one"]) (ps := ["cell", "nexts"]) F hm sc_all_from rfl (fun _ _ _ _ _ _ us hl => match us, hl with | [_, _], _ => rfl) fun cdv A outer s H E F0 hr tk hp => (sm_cons (sm_setF (i := 2) SC.nd rfl (.inr rfl) (fm_lst (am_cons (em_v 0 rfl (.inl rfl)) am_nil))) (sm_cons (sm_set (i := 3) SC.nd rfl (.inl rfl) em_int) (sm_cons (sm_while hp (tm_cmp opm_lt (PEm.bo (em_v 3 rfl (.inl rfl))) (PEm.bo (em_bf cm_len rfl T.m_len PySem.boot_len (ab_cons (bm_v 2 rfl (.inr (.inl rfl))) ab_nil))) (nomark _)) (sm_cons (sm_extend 2 (PFm.bo (fm_lc (own := [("one", 4)]) rfl SC.nd (im_any (em_idx (hu65 hr) (PEm.bo (em_v 1 rfl (.inl rfl))) (PEm.bo (em_idx (hu65 hr) (bm_v 2 rfl (.inr (.inl rfl))) (PEm.bo (em_v 3 rfl (.inl rfl))))))) (blkOk_by (own := [("one", 4)]) (by with_unfolding_all rfl)) (gok_one 4) (fun _ _ _ _ _ => (pg_name (i := 4) SC.nd rfl (.inl rfl))) (fun _ _ _ _ _ => (tsm_one (tm_cmp (opm_notIn (hu65 hr)) (PEm.bo (em_v 4 rfl (.inl rfl))) (bm_v 2 rfl (.inr (.inl rfl))) (by with_unfolding_all rfl)))) (fun _ _ _ _ _ => (em_v 4 rfl (.inl rfl))))) rfl (.inr (.inl rfl))) (sm_one (sm_aug (i := 3) SC.nd rfl (.inl rfl) (PEm.bo em_int) ipm_addI)))) (sm_one (sm_ret (em_bf (cm_sorted rfl) rfl T.m_sorted (by decide +kernel) (ab_cons (bm_v 2 rfl (.inr (.inl rfl))) ab_nil)))))))
/-! ### outs -/
abbrev s_outs : Stmt := top 20
theorem sc_outs : FnScope ["floor", "cell", "thing"] ["floor", "cell"] (defScope s_outs) := ⟨rfl, rfl, rfl, by decide +kernel, rfl, by decide +kernel, by decide +kernel⟩
def b_outs : SM := (sSeq (sSet 2 (eOp D.idx (eOp D.idx (eV 0) (eK (.int 2))) (eV 1))) (sSeq (sIf (tOf (eOp D.isIn (eOp D.idx (eV 2) (eK (.int 0))) (eTup [(eK (.str "belt")), (eK (.str "well"))]))) (sRet (eLst [(eOp D.idx (eV 2) (eK (.int 1)))])) (fun ρ => Out.nx ρ)) (sRet (eIf (tOf (eOp D.eq (eOp D.idx (eV 2) (eK (.int 0))) (eK (.str "parter")))) (eLst [(eOp D.idx (eV 2) (eK (.int 1))), (eOp D.idx (eV 2) (eK (.int 2)))]) (eLst [])))))
def f_outs : List D → R D := runM 3 b_outs
def d_outs : He.DefD := ⟨("outs", none), "outs", "outs", defArgs s_outs, defBody s_outs, defScope s_outs, [], []⟩
theorem ok_outs (T : Txt K mg) (F : FD K "outs" s_outs) (hm : mg "outs" = some (.ref (He.fAd K ("outs", none))))  : Fn K mg P w base "outs" 2 1 f_outs := by
  obtain ⟨fd, F⟩ := F
  have SC := sc_outs
  exact fn_mk (N := ["floor", "cell", "thing"]) (ps := ["floor", "cell"]) F hm sc_outs rfl (fun _ _ _ _ _ _ us hl => match us, hl with | [_, _], _ => rfl) fun cdv A outer s H E F0 hr tk hp => (sm_cons (sm_set (i := 2) SC.nd rfl (.inl rfl) (em_idx (hu65 hr) (PEm.bo (em_idx (hu65 hr) (PEm.bo (em_v 0 rfl (.inl rfl))) (PEm.bo em_int))) (PEm.bo (em_v 1 rfl (.inl rfl))))) (sm_cons (sm_if (tm_cmp (opm_in (hu65 hr)) (PEm.bo (em_idx (hu65 hr) (PEm.bo (em_v 2 rfl (.inl rfl))) (PEm.bo em_int))) (PEm.bo (em_tup (am_cons em_str (am_cons em_str am_nil)))) (by with_unfolding_all rfl)) (sm_one (sm_ret (PFm.em (fm_lst (am_cons (em_idx (hu65 hr) (PEm.bo (em_v 2 rfl (.inl rfl))) (PEm.bo em_int)) am_nil))))) sm_nil) (sm_one (sm_ret (em_if (tm_cmp (opm_eq hr.units) (PEm.bo (em_idx (hu65 hr) (PEm.bo (em_v 2 rfl (.inl rfl))) (PEm.bo em_int))) (PEm.bo em_str) (nomark _)) (PFm.em (fm_lst (am_cons (em_idx (hu65 hr) (PEm.bo (em_v 2 rfl (.inl rfl))) (PEm.bo em_int)) (am_cons (em_idx (hu65 hr) (PEm.bo (em_v 2 rfl (.inl rfl))) (PEm.bo em_int)) am_nil)))) (PFm.em (fm_lst am_nil)))))))
/-! ### beside -/
abbrev s_beside : Stmt := top 19
theorem sc_beside : FnScope ["floor", "cell", "side", "across", "down", "found"] ["floor", "cell", "side"] (defScope s_beside) := ⟨rfl, rfl, rfl, by decide +kernel, rfl, by decide +kernel, by decide +kernel⟩
def b_beside : SM := (sSeq (sPar2 3 4 (eOp D.mod (eV 1) (eOp D.idx (eV 0) (eK (.int 0)))) (eOp D.fdiv (eV 1) (eOp D.idx (eV 0) (eK (.int 0))))) (sSeq (sAug 3 D.addI (eOp D.idx (eDisp [((eK (.str "n")), (eK (.int 0))), ((eK (.str "e")), (eK (.int 1))), ((eK (.str "s")), (eK (.int 0))), ((eK (.str "w")), (eNeg (eK (.int 1))))]) (eV 2))) (sSeq (sAug 4 D.addI (eOp D.idx (eDisp [((eK (.str "n")), (eNeg (eK (.int 1)))), ((eK (.str "e")), (eK (.int 0))), ((eK (.str "s")), (eK (.int 1))), ((eK (.str "w")), (eK (.int 0)))]) (eV 2))) (sSeq (sIf (tOrM (tNotM (tOf (eChain D.le D.lt (eK (.int 0)) (eV 3) (eOp D.idx (eV 0) (eK (.int 0)))))) (tNotM (tOf (eChain D.le D.lt (eK (.int 0)) (eV 4) (eOp D.idx (eV 0) (eK (.int 1))))))) (sRet (eK .non)) (fun ρ => Out.nx ρ)) (sSeq (sSet 5 (eOp D.add (eOp D.mul (eV 4) (eOp D.idx (eV 0) (eK (.int 0)))) (eV 3))) (sRet (eIf (tOf (eOp D.eq (eOp D.idx (eOp D.idx (eOp D.idx (eV 0) (eK (.int 2))) (eV 5)) (eK (.int 0))) (eK (.str "wall")))) (eK .non) (eV 5))))))))
def f_beside : List D → R D := runM 6 b_beside
def d_beside : He.DefD := ⟨("beside", none), "beside", "beside", defArgs s_beside, defBody s_beside, defScope s_beside, [], []⟩
theorem ok_beside (T : Txt K mg) (F : FD K "beside" s_beside) (hm : mg "beside" = some (.ref (He.fAd K ("beside", none))))  : Fn K mg P w base "beside" 3 1 f_beside := by
  obtain ⟨fd, F⟩ := F
  have SC := sc_beside
  exact fn_mk (N := ["floor", "cell", "side", "across", "down", "found"]) (ps := ["floor", "cell", "side"]) F hm sc_beside rfl (fun _ _ _ _ _ _ us hl => match us, hl with | [_, _, _], _ => rfl) fun cdv A outer s H E F0 hr tk hp => (sm_cons (sm_par2 (i := 3) (j := 4) rfl SC.nd rfl rfl (by decide) rfl rfl (am_cons (em_bin opm_mod (PEm.bo (em_v 1 rfl (.inl rfl))) (PEm.bo (em_idx (hu65 hr) (PEm.bo (em_v 0 rfl (.inl rfl))) (PEm.bo em_int)))) (am_cons (em_bin opm_fdiv (PEm.bo (em_v 1 rfl (.inl rfl))) (PEm.bo (em_idx (hu65 hr) (PEm.bo (em_v 0 rfl (.inl rfl))) (PEm.bo em_int)))) am_nil)) rfl) (sm_cons (sm_aug (i := 3) SC.nd rfl (.inl rfl) (PEm.bo (em_idx (hu65 hr) (PFm.bo (fm_disp (.cons em_str em_int (.cons em_str em_int (.cons em_str em_int (.cons em_str (em_neg (PEm.bo em_int)) .nil)))))) (PEm.bo (em_v 2 rfl (.inl rfl))))) ipm_addI) (sm_cons (sm_aug (i := 4) SC.nd rfl (.inl rfl) (PEm.bo (em_idx (hu65 hr) (PFm.bo (fm_disp (.cons em_str (em_neg (PEm.bo em_int)) (.cons em_str em_int (.cons em_str em_int (.cons em_str em_int .nil)))))) (PEm.bo (em_v 2 rfl (.inl rfl))))) ipm_addI) (sm_cons (sm_if (PWm.t (wm_or (tm_not (tm_chain opm_le opm_lt (PEm.bo em_int) (PEm.bo (em_v 3 rfl (.inl rfl))) (PEm.bo (em_idx (hu65 hr) (PEm.bo (em_v 0 rfl (.inl rfl))) (PEm.bo em_int))))) (wm_or1 (tm_not (tm_chain opm_le opm_lt (PEm.bo em_int) (PEm.bo (em_v 4 rfl (.inl rfl))) (PEm.bo (em_idx (hu65 hr) (PEm.bo (em_v 0 rfl (.inl rfl))) (PEm.bo em_int)))))))) (sm_one (sm_ret em_non)) sm_nil) (sm_cons (sm_set (i := 5) SC.nd rfl (.inl rfl) (em_bin opm_add (PEm.bo (em_bin opm_mul (PEm.bo (em_v 4 rfl (.inl rfl))) (PEm.bo (em_idx (hu65 hr) (PEm.bo (em_v 0 rfl (.inl rfl))) (PEm.bo em_int))))) (PEm.bo (em_v 3 rfl (.inl rfl))))) (sm_one (sm_ret (em_if (tm_cmp (opm_eq hr.units) (PEm.bo (em_idx (hu65 hr) (PEm.bo (em_idx (hu65 hr) (PEm.bo (em_idx (hu65 hr) (PEm.bo (em_v 0 rfl (.inl rfl))) (PEm.bo em_int))) (PEm.bo (em_v 5 rfl (.inl rfl))))) (PEm.bo em_int))) (PEm.bo em_str) (nomark _)) em_non (em_v 5 rfl (.inl rfl))))))))))
/-! ### goals -/
abbrev s_goals : Stmt := top 21
theorem sc_goals : FnScope ["floor", "cell", "found", "one", "side"] ["floor", "cell"] (defScope s_goals) := ⟨rfl, rfl, rfl, by decide +kernel, rfl, by decide +kernel, by decide +kernel⟩
def b_goals : SM := (sSeq (sSet 2 (eLc [4] (gOne 4) (iV (eCall f_outs [(eV 0), (eV 1)])) pYes (eCall f_beside [(eV 0), (eV 1), (eV 4)]))) (sRet (eLc [3] (gOne 3) (iV (eV 2)) (tOf (eOp D.isNn (eV 3) (eK .non))) (eV 3))))
def f_goals : List D → R D := runM 5 b_goals
def d_goals : He.DefD := ⟨("goals", none), "goals", "goals", defArgs s_goals, defBody s_goals, defScope s_goals, [], []⟩
theorem ok_goals (T : Txt K mg) (F : FD K "goals" s_goals) (hm : mg "goals" = some (.ref (He.fAd K ("goals", none)))) (G_beside : Fn K mg P w base "beside" 3 1 f_beside) (G_outs : Fn K mg P w base "outs" 2 1 f_outs) : Fn K mg P w base "goals" 2 2 f_goals := by
  obtain ⟨fd, F⟩ := F
  have SC := sc_goals
  exact fn_mk (N := ["floor", "cell", "found", "one", "side"]) (ps := ["floor", "cell"]) F hm sc_goals rfl (fun _ _ _ _ _ _ us hl => match us, hl with | [_, _], _ => rfl) fun cdv A outer s H E F0 hr tk hp => (sm_cons (sm_setLc (i := 2) (own := [("side", 4)]) rfl SC.nd rfl rfl (sw_true rfl rfl rfl (by decide +kernel)) (im_any (em_call G_outs hr (by decide) tk rfl (am_cons (em_v 0 rfl (.inr (.inl rfl))) (am_cons (em_v 1 rfl (.inr (.inl rfl))) am_nil)))) (blkOk_by (own := [("side", 4)]) (by with_unfolding_all rfl)) (gok_one 4) (fun _ _ _ _ _ => (pg_name (i := 4) SC.nd rfl (.inl rfl))) (fun _ _ _ _ _ => tsm_nil) (fun _ _ _ _ _ => (em_call G_beside hr (by decide) takes0 rfl (am_cons (em_v 0 rfl (.inr (.inl rfl))) (am_cons (em_v 1 rfl (.inr (.inl rfl))) (am_cons (em_v 4 rfl (.inl rfl)) am_nil)))))) (sm_one (sm_ret (PFm.em (fm_lc (own := [("one", 3)]) rfl SC.nd (im_any (em_v 2 rfl (.inl rfl))) (blkOk_by (own := [("one", 3)]) (by with_unfolding_all rfl)) (gok_one 3) (fun _ _ _ _ _ => (pg_name (i := 3) SC.nd rfl (.inl rfl))) (fun _ _ _ _ _ => (tsm_one (tm_cmp opm_isNn (PEm.bo (em_v 3 rfl (.inl rfl))) (PEm.bo em_non) (nomark _)))) (fun _ _ _ _ _ => (em_v 3 rfl (.inl rfl))))))))
/-! ### reach -/
abbrev s_reach : Stmt := top 26
theorem sc_reach : FnScope ["floor", "cell", "one"] ["floor", "cell"] (defScope s_reach) := ⟨rfl, rfl, rfl, by decide +kernel, rfl, by decide +kernel, by decide +kernel⟩
def b_reach : SM := (sSeq (sExpr (eCall f_look_cell [(eV 0), (eV 1)])) (sRet (eCall f_all_from [(eV 1), (eLc [2] (gOne 2) (iBf rg1 [(eBf bLen [(eOp D.idx (eV 0) (eK (.int 2)))])]) pYes (eCall f_goals [(eV 0), (eV 2)]))])))
def f_reach : List D → R D := runM 3 b_reach
def d_reach : He.DefD := ⟨("reach", none), "reach", "reach", defArgs s_reach, defBody s_reach, defScope s_reach, [], []⟩
theorem ok_reach (T : Txt K mg) (F : FD K "reach" s_reach) (hm : mg "reach" = some (.ref (He.fAd K ("reach", none)))) (G_all_from : Fn K mg P w base "all_from" 2 1 f_all_from) (G_goals : Fn K mg P w base "goals" 2 2 f_goals) (G_look_cell : Fn K mg P w base "look_cell" 2 5 f_look_cell) : Fn K mg P w base "reach" 2 6 f_reach := by
  obtain ⟨fd, F⟩ := F
  have SC := sc_reach
  exact fn_mk (N := ["floor", "cell", "one"]) (ps := ["floor", "cell"]) F hm sc_reach rfl (fun _ _ _ _ _ _ us hl => match us, hl with | [_, _], _ => rfl) fun cdv A outer s H E F0 hr tk hp => (sm_cons (sm_expr (em_call G_look_cell hr (by decide) tk rfl (am_cons (em_v 0 rfl (.inr (.inl rfl))) (am_cons (em_v 1 rfl (.inl rfl)) am_nil)))) (sm_one (sm_ret (em_call G_all_from hr (by decide) tk rfl (am_cons (em_v 1 rfl (.inl rfl)) (am_cons (PFm.em (fm_lc (own := [("one", 2)]) rfl SC.nd (im_range1 rfl T.m_range (ab_cons (PEm.bo (em_bf cm_len rfl T.m_len PySem.boot_len (ab_cons (PEm.bo (em_idx (hu65 hr) (PEm.bo (em_v 0 rfl (.inr (.inl rfl)))) (PEm.bo em_int))) ab_nil))) ab_nil)) (blkOk_by (own := [("one", 2)]) (by with_unfolding_all rfl)) (gok_one 2) (fun _ _ _ _ _ => (pg_name (i := 2) SC.nd rfl (.inl rfl))) (fun _ _ _ _ _ => tsm_nil) (fun _ _ _ _ _ => (em_call G_goals hr (by decide) takes0 rfl (am_cons (em_v 0 rfl (.inr (.inl rfl))) (am_cons (em_v 2 rfl (.inl rfl)) am_nil)))))) am_nil))))))
/-! ### comers -/
abbrev s_comers : Stmt := top 22
theorem sc_comers : FnScope ["floor", "cell", "found", "side", "other"] ["floor", "cell"] (defScope s_comers) := ⟨rfl, rfl, rfl, by decide +kernel, rfl, by decide +kernel, by decide +kernel⟩
def b_comers : SM := (sSeq (sSetF 2 (eLst [])) (sSeq (sFor [3, 4] (gOne 3) (iK [.str "n", .str "e", .str "s", .str "w"]) (sSeq (sSet 4 (eCall f_beside [(eV 0), (eV 1), (eV 3)])) (sIf (tAndM (tOf (eOp D.isNn (eV 4) (eK .non))) (tOf (eOp D.isIn (eV 1) (eCall f_goals [(eV 0), (eV 4)])))) (sApp 2 (eV 4)) (fun ρ => Out.nx ρ)))) (sFz 2 (sRet (eV 2)))))
def f_comers : List D → R D := runM 5 b_comers
def d_comers : He.DefD := ⟨("comers", none), "comers", "comers", defArgs s_comers, defBody s_comers, defScope s_comers, [], []⟩
theorem ok_comers (T : Txt K mg) (F : FD K "comers" s_comers) (hm : mg "comers" = some (.ref (He.fAd K ("comers", none)))) (G_beside : Fn K mg P w base "beside" 3 1 f_beside) (G_goals : Fn K mg P w base "goals" 2 2 f_goals) : Fn K mg P w base "comers" 2 3 f_comers := by
  obtain ⟨fd, F⟩ := F
  have SC := sc_comers
  exact fn_mk (N := ["floor", "cell", "found", "side", "other"]) (ps := ["floor", "cell"]) F hm sc_comers rfl (fun _ _ _ _ _ _ us hl => match us, hl with | [_, _], _ => rfl) fun cdv A outer s H E F0 hr tk hp => (sm_cons (sm_setF (i := 2) SC.nd rfl (.inl rfl) (fm_lst am_nil)) (sm_cons (sm_for hp rfl (im_gtup rfl T.c_SIDES) (gok_one 3) (pg_name (i := 3) SC.nd rfl (.inl rfl)) (fun _ => (sm_cons (sm_set (i := 4) SC.nd rfl (.inl rfl) (em_call G_beside hr (by decide) tk rfl (am_cons (em_v 0 rfl (.inl rfl)) (am_cons (em_v 1 rfl (.inl rfl)) (am_cons (em_v 3 rfl (.inl rfl)) am_nil))))) (sm_one (sm_if (PWm.t (wm_and (tm_cmp opm_isNn (PEm.bo (em_v 4 rfl (.inl rfl))) (PEm.bo em_non) (nomark _)) (wm_and1 (tm_cmp (opm_in (hu65 hr)) (PEm.bo (em_v 1 rfl (.inl rfl))) (PEm.bo (em_call G_goals hr (by decide) tk rfl (am_cons (em_v 0 rfl (.inl rfl)) (am_cons (em_v 4 rfl (.inl rfl)) am_nil)))) (by with_unfolding_all rfl))))) (sm_one (sm_append 2 (em_v 4 rfl (.inl rfl)) rfl (.inl rfl))) sm_nil))))) (sm_one (sm_fz 2 (sm_ret (em_v 2 rfl (.inl rfl)))))))
/-! ### sources -/
abbrev s_sources : Stmt := top 27
theorem sc_sources : FnScope ["floor", "cell", "one"] ["floor", "cell"] (defScope s_sources) := ⟨rfl, rfl, rfl, by decide +kernel, rfl, by decide +kernel, by decide +kernel⟩
def b_sources : SM := (sSeq (sExpr (eCall f_look_cell [(eV 0), (eV 1)])) (sRet (eCall f_all_from [(eV 1), (eLc [2] (gOne 2) (iBf rg1 [(eBf bLen [(eOp D.idx (eV 0) (eK (.int 2)))])]) pYes (eCall f_comers [(eV 0), (eV 2)]))])))
def f_sources : List D → R D := runM 3 b_sources
def d_sources : He.DefD := ⟨("sources", none), "sources", "sources", defArgs s_sources, defBody s_sources, defScope s_sources, [], []⟩
theorem ok_sources (T : Txt K mg) (F : FD K "sources" s_sources) (hm : mg "sources" = some (.ref (He.fAd K ("sources", none)))) (G_all_from : Fn K mg P w base "all_from" 2 1 f_all_from) (G_comers : Fn K mg P w base "comers" 2 3 f_comers) (G_look_cell : Fn K mg P w base "look_cell" 2 5 f_look_cell) : Fn K mg P w base "sources" 2 6 f_sources := by
  obtain ⟨fd, F⟩ := F
  have SC := sc_sources
  exact fn_mk (N := ["floor", "cell", "one"]) (ps := ["floor", "cell"]) F hm sc_sources rfl (fun _ _ _ _ _ _ us hl => match us, hl with | [_, _], _ => rfl) fun cdv A outer s H E F0 hr tk hp => (sm_cons (sm_expr (em_call G_look_cell hr (by decide) tk rfl (am_cons (em_v 0 rfl (.inr (.inl rfl))) (am_cons (em_v 1 rfl (.inl rfl)) am_nil)))) (sm_one (sm_ret (em_call G_all_from hr (by decide) tk rfl (am_cons (em_v 1 rfl (.inl rfl)) (am_cons (PFm.em (fm_lc (own := [("one", 2)]) rfl SC.nd (im_range1 rfl T.m_range (ab_cons (PEm.bo (em_bf cm_len rfl T.m_len PySem.boot_len (ab_cons (PEm.bo (em_idx (hu65 hr) (PEm.bo (em_v 0 rfl (.inr (.inl rfl)))) (PEm.bo em_int))) ab_nil))) ab_nil)) (blkOk_by (own := [("one", 2)]) (by with_unfolding_all rfl)) (gok_one 2) (fun _ _ _ _ _ => (pg_name (i := 2) SC.nd rfl (.inl rfl))) (fun _ _ _ _ _ => tsm_nil) (fun _ _ _ _ _ => (em_call G_comers hr (by decide) takes0 rfl (am_cons (em_v 0 rfl (.inr (.inl rfl))) (am_cons (em_v 2 rfl (.inl rfl)) am_nil)))))) am_nil))))))
/-! ### lost -/
abbrev s_lost : Stmt := top 28
theorem sc_lost : FnScope ["floor", "nexts", "found", "cell", "what", "one"] ["floor"] (defScope s_lost) := ⟨rfl, rfl, rfl, by decide +kernel, rfl, by decide +kernel, by decide +kernel⟩
def b_lost : SM := (sSeq (sExpr (eCall f_look [(eV 0)])) (sSeq (sSet 1 (eLc [5] (gOne 5) (iBf rg1 [(eBf bLen [(eOp D.idx (eV 0) (eK (.int 2)))])]) pYes (eCall f_goals [(eV 0), (eV 5)]))) (sSeq (sSetF 2 (eLst [])) (sSeq (sFor [3, 4] (gTupM [3, 4]) (iEn (eOp D.idx (eV 0) (eK (.int 2)))) (sIf (tAndM (tOf (eOp D.ne (eOp D.idx (eV 4) (eK (.int 0))) (eK (.str "wall")))) (tNotM (tTru (eLc [5] (gOne 5) (iV (eCall f_all_from [(eV 3), (eV 1)])) (tOf (eOp D.eq (eOp D.idx (eOp D.idx (eOp D.idx (eV 0) (eK (.int 2))) (eV 5)) (eK (.int 0))) (eK (.str "end")))) (eV 5))))) (sApp 2 (eV 3)) (fun ρ => Out.nx ρ))) (sFz 2 (sRet (eV 2)))))))
def f_lost : List D → R D := runM 6 b_lost
def d_lost : He.DefD := ⟨("lost", none), "lost", "lost", defArgs s_lost, defBody s_lost, defScope s_lost, [], []⟩
theorem ok_lost (T : Txt K mg) (F : FD K "lost" s_lost) (hm : mg "lost" = some (.ref (He.fAd K ("lost", none)))) (G_all_from : Fn K mg P w base "all_from" 2 1 f_all_from) (G_goals : Fn K mg P w base "goals" 2 2 f_goals) (G_look : Fn K mg P w base "look" 1 4 f_look) : Fn K mg P w base "lost" 1 5 f_lost := by
  obtain ⟨fd, F⟩ := F
  have SC := sc_lost
  exact fn_mk (N := ["floor", "nexts", "found", "cell", "what", "one"]) (ps := ["floor"]) F hm sc_lost rfl (fun _ _ _ _ _ _ us hl => match us, hl with | [_], _ => rfl) fun cdv A outer s H E F0 hr tk hp => (sm_cons (sm_expr (em_call G_look hr (by decide) tk rfl (am_cons (em_v 0 rfl (.inr (.inl rfl))) am_nil))) (sm_cons (sm_setLc (i := 1) (own := [("one", 5)]) rfl SC.nd rfl rfl (sw_true rfl rfl rfl (by decide +kernel)) (im_range1 rfl T.m_range (ab_cons (PEm.bo (em_bf cm_len rfl T.m_len PySem.boot_len (ab_cons (PEm.bo (em_idx (hu65 hr) (PEm.bo (em_v 0 rfl (.inr (.inl rfl)))) (PEm.bo em_int))) ab_nil))) ab_nil)) (blkOk_by (own := [("one", 5)]) (by with_unfolding_all rfl)) (gok_one 5) (fun _ _ _ _ _ => (pg_name (i := 5) SC.nd rfl (.inl rfl))) (fun _ _ _ _ _ => tsm_nil) (fun _ _ _ _ _ => (em_call G_goals hr (by decide) takes0 rfl (am_cons (em_v 0 rfl (.inr (.inl rfl))) (am_cons (em_v 5 rfl (.inl rfl)) am_nil))))) (sm_cons (sm_setF (i := 2) SC.nd rfl (.inl rfl) (fm_lst am_nil)) (sm_cons (sm_for hp rfl (im_enum rfl T.m_enumerate (em_idx (hu65 hr) (PEm.bo (em_v 0 rfl (.inr (.inl rfl)))) (PEm.bo em_int))) (gok_tup [3, 4]) (pg_tup rfl (pgs_cons (pg_name (i := 3) SC.nd rfl (.inl rfl)) (pgs_cons (pg_name (i := 4) SC.nd rfl (.inl rfl)) pgs_nil))) (fun _ => (sm_one (sm_if (PWm.t (wm_and (tm_cmp (opm_ne hr.units) (PEm.bo (em_idx (hu65 hr) (PEm.bo (em_v 4 rfl (.inl rfl))) (PEm.bo em_int))) (PEm.bo em_str) (nomark _)) (wm_and1 (tm_not (tm_tru (PFm.bo (fm_lc (own := [("one", 5)]) rfl SC.nd (im_any (em_call G_all_from hr (by decide) tk rfl (am_cons (em_v 3 rfl (.inl rfl)) (am_cons (em_v 1 rfl (.inl rfl)) am_nil)))) (blkOk_by (own := [("one", 5)]) (by with_unfolding_all rfl)) (gok_one 5) (fun _ _ _ _ _ => (pg_name (i := 5) SC.nd rfl (.inl rfl))) (fun _ _ _ _ _ => (tsm_one (tm_cmp (opm_eq hr.units) (PEm.bo (em_idx (hu65 hr) (PEm.bo (em_idx (hu65 hr) (PEm.bo (em_idx (hu65 hr) (PEm.bo (em_v 0 rfl (.inr (.inl rfl)))) (PEm.bo em_int))) (PEm.bo (em_v 5 rfl (.inl rfl))))) (PEm.bo em_int))) (PEm.bo em_str) (nomark _)))) (fun _ _ _ _ _ => (em_v 5 rfl (.inl rfl)))))))))) (sm_one (sm_append 2 (em_v 3 rfl (.inl rfl)) rfl (.inl rfl))) sm_nil)))) (sm_one (sm_fz 2 (sm_ret (em_v 2 rfl (.inl rfl)))))))))
/-! ### rings -/
abbrev s_rings : Stmt := top 29
theorem sc_rings : FnScope ["floor", "found", "cell", "path"] ["floor"] (defScope s_rings) := ⟨rfl, rfl, rfl, by decide +kernel, rfl, by decide +kernel, by decide +kernel⟩
def b_rings : SM := (sSeq (sExpr (eCall f_look [(eV 0)])) (sSeq (sSetF 1 (eLst [])) (sSeq (sFor [2, 3] (gOne 2) (iBf rg1 [(eBf bLen [(eOp D.idx (eV 0) (eK (.int 2)))])]) (sSeq (sSetF 3 (eLst [(eV 2)])) (sSeq (sWhile 100000 [] (tAndM (tOf (eOp D.eq (eBf bLen [(eCall f_goals [(eV 0), (eOp D.idx (eB 3) (eNeg (eK (.int 1))))])]) (eK (.int 1)))) (tOf (eOp D.notIn (eOp D.idx (eCall f_goals [(eV 0), (eOp D.idx (eB 3) (eNeg (eK (.int 1))))]) (eK (.int 0))) (eB 3)))) (sApp 3 (eOp D.idx (eCall f_goals [(eV 0), (eOp D.idx (eB 3) (eNeg (eK (.int 1))))]) (eK (.int 0))))) (sIf (tAndM (tOf (eOp D.eq (eCall f_goals [(eV 0), (eOp D.idx (eB 3) (eNeg (eK (.int 1))))]) (eLst [(eV 2)]))) (tOf (eOp D.eq (eV 2) (eBf bMin [(eB 3)])))) (sFz 3 (sApp 1 (eV 3))) (fun ρ => Out.nx ρ))))) (sFz 1 (sRet (eV 1))))))
def f_rings : List D → R D := runM 4 b_rings
def d_rings : He.DefD := ⟨("rings", none), "rings", "rings", defArgs s_rings, defBody s_rings, defScope s_rings, [], []⟩
theorem ok_rings (T : Txt K mg) (F : FD K "rings" s_rings) (hm : mg "rings" = some (.ref (He.fAd K ("rings", none)))) (G_goals : Fn K mg P w base "goals" 2 2 f_goals) (G_look : Fn K mg P w base "look" 1 4 f_look) : Fn K mg P w base "rings" 1 5 f_rings := by
  obtain ⟨fd, F⟩ := F
  have SC := sc_rings
  exact fn_mk (N := ["floor", "found", "cell", "path"]) (ps := ["floor"]) F hm sc_rings rfl (fun _ _ _ _ _ _ us hl => match us, hl with | [_], _ => rfl) fun cdv A outer s H E F0 hr tk hp => (sm_cons (sm_expr (em_call G_look hr (by decide) tk rfl (am_cons (em_v 0 rfl (.inl rfl)) am_nil))) (sm_cons (sm_setF (i := 1) SC.nd rfl (.inl rfl) (fm_lst am_nil)) (sm_cons (sm_for hp rfl (im_range1 rfl T.m_range (ab_cons (PEm.bo (em_bf cm_len rfl T.m_len PySem.boot_len (ab_cons (PEm.bo (em_idx (hu65 hr) (PEm.bo (em_v 0 rfl (.inl rfl))) (PEm.bo em_int))) ab_nil))) ab_nil)) (gok_one 2) (pg_name (i := 2) SC.nd rfl (.inl rfl)) (fun _ => (sm_cons (sm_setF (i := 3) SC.nd rfl (.inl rfl) (fm_lst (am_cons (em_v 2 rfl (.inl rfl)) am_nil))) (sm_cons (sm_while hp (PWm.t (wm_and (tm_cmp (opm_eq hr.units) (PEm.bo (em_bf cm_len rfl T.m_len PySem.boot_len (ab_cons (PEm.bo (em_call G_goals hr (by decide) tk rfl (am_cons (em_v 0 rfl (.inl rfl)) (am_cons (em_idx (hu65 hr) (bm_v 3 rfl (.inl rfl)) (PEm.bo (em_neg (PEm.bo em_int)))) am_nil)))) ab_nil))) (PEm.bo em_int) (nomark _)) (wm_and1 (tm_cmp (opm_notIn (hu65 hr)) (PEm.bo (em_idx (hu65 hr) (PEm.bo (em_call G_goals hr (by decide) tk rfl (am_cons (em_v 0 rfl (.inl rfl)) (am_cons (em_idx (hu65 hr) (bm_v 3 rfl (.inl rfl)) (PEm.bo (em_neg (PEm.bo em_int)))) am_nil)))) (PEm.bo em_int))) (bm_v 3 rfl (.inl rfl)) (by with_unfolding_all rfl))))) (sm_one (sm_append 3 (em_idx (hu65 hr) (PEm.bo (em_call G_goals hr (by decide) tk rfl (am_cons (em_v 0 rfl (.inl rfl)) (am_cons (em_idx (hu65 hr) (bm_v 3 rfl (.inl rfl)) (PEm.bo (em_neg (PEm.bo em_int)))) am_nil)))) (PEm.bo em_int)) rfl (.inl rfl)))) (sm_one (sm_if (PWm.t (wm_and (tm_cmp (opm_eq hr.units) (PEm.bo (em_call G_goals hr (by decide) tk rfl (am_cons (em_v 0 rfl (.inl rfl)) (am_cons (em_idx (hu65 hr) (bm_v 3 rfl (.inl rfl)) (PEm.bo (em_neg (PEm.bo em_int)))) am_nil)))) (PFm.bo (fm_lst (am_cons (em_v 2 rfl (.inl rfl)) am_nil))) (nomark _)) (wm_and1 (tm_cmp (opm_eq hr.units) (PEm.bo (em_v 2 rfl (.inl rfl))) (PEm.bo (em_bf (cm_min rfl) rfl T.m_min (by decide +kernel) (ab_cons (bm_v 3 rfl (.inl rfl)) ab_nil))) (nomark _))))) (sm_one (sm_fz 3 (sm_append 1 (em_v 3 rfl (.inl rfl)) rfl (.inl rfl)))) sm_nil)))))) (sm_one (sm_fz 1 (sm_ret (em_v 1 rfl (.inl rfl))))))))
/-! ### _law_asked -/
abbrev s__law_asked : Stmt := top 66
theorem sc__law_asked : FnScope ["_law_way", "_law_floor_here", "_law_thing", "_law_more"] ["_law_way", "_law_floor_here", "_law_thing", "_law_more"] (defScope s__law_asked) := ⟨rfl, rfl, rfl, by decide +kernel, rfl, by decide +kernel, by decide +kernel⟩
def b__law_asked : SM := (sSeq (sIf (tOf (eOp D.lt (eV 0) (eK (.int 4)))) (sSeq (sIf (tOf (eOp D.eq (eV 0) (eK (.int 0)))) (sRet (eCall f_reach [(eV 1), (eV 2)])) (fun ρ => Out.nx ρ)) (sSeq (sIf (tOf (eOp D.eq (eV 0) (eK (.int 1)))) (sRet (eCall f_sources [(eV 1), (eV 2)])) (fun ρ => Out.nx ρ)) (sRet (eIf (tOf (eOp D.eq (eV 0) (eK (.int 2)))) eNo eNo)))) (fun ρ => Out.nx ρ)) (sSeq (sIf (tOf (eOp D.lt (eV 0) (eK (.int 8)))) (sSeq (sIf (tOf (eOp D.eq (eV 0) (eK (.int 4)))) (sRet eNo) (fun ρ => Out.nx ρ)) (sSeq (sIf (tOf (eOp D.eq (eV 0) (eK (.int 5)))) (sRet eNo) (fun ρ => Out.nx ρ)) (sRet (eIf (tOf (eOp D.eq (eV 0) (eK (.int 6)))) eNo eNo)))) (fun ρ => Out.nx ρ)) (sSeq (sIf (tOf (eOp D.lt (eV 0) (eK (.int 12)))) (sSeq (sIf (tOf (eOp D.eq (eV 0) (eK (.int 8)))) (sRet eNo) (fun ρ => Out.nx ρ)) (sSeq (sIf (tOf (eOp D.eq (eV 0) (eK (.int 9)))) (sRet (eCall f_lost [(eV 1)])) (fun ρ => Out.nx ρ)) (sRet (eIf (tOf (eOp D.eq (eV 0) (eK (.int 10)))) (eCall f_rings [(eV 1)]) eNo)))) (fun ρ => Out.nx ρ)) (sRet (eIf (tOf (eOp D.eq (eV 0) (eK (.int 12)))) eNo eNo)))))
def f__law_asked : List D → R D := runM 4 b__law_asked
def d__law_asked : He.DefD := ⟨("_law_asked", none), "_law_asked", "_law_asked", defArgs s__law_asked, defBody s__law_asked, defScope s__law_asked, [], []⟩
theorem ok__law_asked (T : Txt K mg) (F : FD K "_law_asked" s__law_asked) (hm : mg "_law_asked" = some (.ref (He.fAd K ("_law_asked", none)))) (G_lost : Fn K mg P w base "lost" 1 5 f_lost) (G_reach : Fn K mg P w base "reach" 2 6 f_reach) (G_rings : Fn K mg P w base "rings" 1 5 f_rings) (G_sources : Fn K mg P w base "sources" 2 6 f_sources) : Fn K mg P w base "_law_asked" 4 7 f__law_asked := by
  obtain ⟨fd, F⟩ := F
  have SC := sc__law_asked
  exact fn_mk (N := ["_law_way", "_law_floor_here", "_law_thing", "_law_more"]) (ps := ["_law_way", "_law_floor_here", "_law_thing", "_law_more"]) F hm sc__law_asked rfl (fun _ _ _ _ _ _ us hl => match us, hl with | [_, _, _, _], _ => rfl) fun cdv A outer s H E F0 hr tk hp => (sm_cons (sm_if (tm_cmp opm_lt (PEm.bo (em_v 0 rfl (.inl rfl))) (PEm.bo em_int) (nomark _)) (sm_cons (sm_if (tm_cmp (opm_eq hr.units) (PEm.bo (em_v 0 rfl (.inl rfl))) (PEm.bo em_int) (nomark _)) (sm_one (sm_ret (em_call G_reach hr (by decide) tk rfl (am_cons (em_v 1 rfl (.inl rfl)) (am_cons (em_v 2 rfl (.inl rfl)) am_nil))))) sm_nil) (sm_cons (sm_if (tm_cmp (opm_eq hr.units) (PEm.bo (em_v 0 rfl (.inl rfl))) (PEm.bo em_int) (nomark _)) (sm_one (sm_ret (em_call G_sources hr (by decide) tk rfl (am_cons (em_v 1 rfl (.inl rfl)) (am_cons (em_v 2 rfl (.inl rfl)) am_nil))))) sm_nil) (sm_one (sm_ret (em_if (tm_cmp (opm_eq hr.units) (PEm.bo (em_v 0 rfl (.inl rfl))) (PEm.bo em_int) (nomark _)) em_never em_never))))) sm_nil) (sm_cons (sm_if (tm_cmp opm_lt (PEm.bo (em_v 0 rfl (.inl rfl))) (PEm.bo em_int) (nomark _)) (sm_cons (sm_if (tm_cmp (opm_eq hr.units) (PEm.bo (em_v 0 rfl (.inl rfl))) (PEm.bo em_int) (nomark _)) (sm_one (sm_ret em_never)) sm_nil) (sm_cons (sm_if (tm_cmp (opm_eq hr.units) (PEm.bo (em_v 0 rfl (.inl rfl))) (PEm.bo em_int) (nomark _)) (sm_one (sm_ret em_never)) sm_nil) (sm_one (sm_ret (em_if (tm_cmp (opm_eq hr.units) (PEm.bo (em_v 0 rfl (.inl rfl))) (PEm.bo em_int) (nomark _)) em_never em_never))))) sm_nil) (sm_cons (sm_if (tm_cmp opm_lt (PEm.bo (em_v 0 rfl (.inl rfl))) (PEm.bo em_int) (nomark _)) (sm_cons (sm_if (tm_cmp (opm_eq hr.units) (PEm.bo (em_v 0 rfl (.inl rfl))) (PEm.bo em_int) (nomark _)) (sm_one (sm_ret em_never)) sm_nil) (sm_cons (sm_if (tm_cmp (opm_eq hr.units) (PEm.bo (em_v 0 rfl (.inl rfl))) (PEm.bo em_int) (nomark _)) (sm_one (sm_ret (em_call G_lost hr (by decide) tk rfl (am_cons (em_v 1 rfl (.inl rfl)) am_nil)))) sm_nil) (sm_one (sm_ret (em_if (tm_cmp (opm_eq hr.units) (PEm.bo (em_v 0 rfl (.inl rfl))) (PEm.bo em_int) (nomark _)) (em_call G_rings hr (by decide) tk rfl (am_cons (em_v 1 rfl (.inl rfl)) am_nil)) em_never))))) sm_nil) (sm_one (sm_ret (em_if (tm_cmp (opm_eq hr.units) (PEm.bo (em_v 0 rfl (.inl rfl))) (PEm.bo em_int) (nomark _)) em_never em_never))))))
/-! ### _law_word -/
abbrev s__law_word : Stmt := top 65
theorem sc__law_word : FnScope ["_law_way", "_law_floor_here", "_law_thing", "_law_more", "_law_caught"] ["_law_way", "_law_floor_here", "_law_thing", "_law_more"] (defScope s__law_word) := ⟨rfl, rfl, rfl, by decide +kernel, rfl, by decide +kernel, by decide +kernel⟩
def b__law_word : SM := (sSeq (sSet 4 (eK (.str ""))) (sSeq (sTry excs subX (sExpr (eCall f__law_asked [(eV 0), (eV 1), (eV 2), (eV 3)])) [("BadFloor", (sSet 4 (eK (.str "floor")))), ("BadState", (sSet 4 (eK (.str "state")))), ("BadCount", (sSet 4 (eK (.str "count")))), ("BadCell", (sSet 4 (eK (.str "cell")))), ("BadText", (sSet 4 (eK (.str "text")))), ("TooLong", (sSet 4 (eK (.str "long"))))]) (sRet (eV 4))))
def f__law_word : List D → R D := runM 5 b__law_word
def d__law_word : He.DefD := ⟨("_law_word", none), "_law_word", "_law_word", defArgs s__law_word, defBody s__law_word, defScope s__law_word, [], []⟩
theorem ok__law_word (T : Txt K mg) (F : FD K "_law_word" s__law_word) (hm : mg "_law_word" = some (.ref (He.fAd K ("_law_word", none)))) (G__law_asked : Fn K mg P w base "_law_asked" 4 7 f__law_asked) : Fn K mg P w base "_law_word" 4 8 f__law_word := by
  obtain ⟨fd, F⟩ := F
  have SC := sc__law_word
  exact fn_mk (N := ["_law_way", "_law_floor_here", "_law_thing", "_law_more", "_law_caught"]) (ps := ["_law_way", "_law_floor_here", "_law_thing", "_law_more"]) F hm sc__law_word rfl (fun _ _ _ _ _ _ us hl => match us, hl with | [_, _, _, _], _ => rfl) fun cdv A outer s H E F0 hr tk hp => (sm_cons (sm_set (i := 4) SC.nd rfl (.inl rfl) em_str) (sm_cons (sm_try rfl rfl tk T.sub (fun W pn xe tk hpx => (sm_one (sm_expr (em_call G__law_asked hr (by decide) tk rfl (am_cons (em_v 0 rfl (.inl rfl)) (am_cons (em_v 1 rfl (.inl rfl)) (am_cons (em_v 2 rfl (.inl rfl)) (am_cons (em_v 3 rfl (.inl rfl)) am_nil)))))))) (.cons rfl (by decide) T.x_BadFloor.gC (by decide) (fun _ _ => (sm_one (sm_set (i := 4) SC.nd rfl (.inl rfl) em_str))) (.cons rfl (by decide) T.x_BadState.gC (by decide) (fun _ _ => (sm_one (sm_set (i := 4) SC.nd rfl (.inl rfl) em_str))) (.cons rfl (by decide) T.x_BadCount.gC (by decide) (fun _ _ => (sm_one (sm_set (i := 4) SC.nd rfl (.inl rfl) em_str))) (.cons rfl (by decide) T.x_BadCell.gC (by decide) (fun _ _ => (sm_one (sm_set (i := 4) SC.nd rfl (.inl rfl) em_str))) (.cons rfl (by decide) T.x_BadText.gC (by decide) (fun _ _ => (sm_one (sm_set (i := 4) SC.nd rfl (.inl rfl) em_str))) (.cons rfl (by decide) T.x_TooLong.gC (by decide) (fun _ _ => (sm_one (sm_set (i := 4) SC.nd rfl (.inl rfl) em_str))) .nil))))))) (sm_one (sm_ret (em_v 4 rfl (.inl rfl))))))
/-! ### law -/
abbrev s_law : Stmt := top 67
theorem sc_law : FnScope ["_law_script", "_law_floor_here", "_law_net_here", "_law_cells", "_law_far", "_law_cell_here", "_law_ends", "_law_want", "_law_bad", "_law_found", "_law_k", "_law_path", "_law_one", "_law_other", "_law_way"] ["_law_script"] (defScope s_law) := ⟨rfl, rfl, rfl, by decide +kernel, rfl, by decide +kernel, by decide +kernel⟩
def b_law : SM := (sSeq (sSet 1 (eCall f__law_floor [(eV 0), (eK (.int 0))])) (sSeq (sSet 2 (eCall f__law_net [(eV 1)])) (sSeq (sSet 3 (eLrng (eBf bLen [(eOp D.idx (eV 1) (eK (.int 2)))]))) (sSeq (sSetF 4 (eLst [])) (sSeq (sFor [5, 9, 10, 12, 13] (gOne 5) (iV (eV 3)) (sSeq (sSetF 9 (eDisp [((eV 5), (eK (.bl true)))])) (sSeq (sFor [10, 12, 13] (gOne 10) (iV (eV 3)) (sFor [12, 13] (gOne 12) (iV (eBf bListD [(eB 9)])) (sFor [13] (gOne 13) (iV (eOp D.idx (eOp D.idx (eV 2) (eK (.int 0))) (eV 12))) (sSub 9 (eV 13) (eK (.bl true)))))) (sApp 4 (eBf bSorted [(eB 9)]))))) (sSeq (sFor [5] (gOne 5) (iV (eV 3)) (sSeq (sIf (tOf (eOp D.ne (eCall f_reach [(eV 1), (eV 5)]) (eOp D.idx (eB 4) (eV 5)))) (sRet (eK (.bl false))) (fun ρ => Out.nx ρ)) (sIf (tOf (eOp D.ne (eCall f_sources [(eV 1), (eV 5)]) (eLc [12] (gOne 12) (iV (eV 3)) (tOf (eOp D.isIn (eV 5) (eOp D.idx (eB 4) (eV 12)))) (eV 12)))) (sRet (eK (.bl false))) (fun ρ => Out.nx ρ)))) (sSeq (sSet 6 (eLc [5] (gOne 5) (iV (eV 3)) (tOf (eOp D.eq (eOp D.idx (eOp D.idx (eV 1) (eK (.int 2))) (eV 5)) (eTup [(eK (.str "end"))]))) (eV 5))) (sSeq (sSetF 7 (eLst [])) (sSeq (sFor [5] (gOne 5) (iV (eV 3)) (sIf (tAndM (tOf (eOp D.ne (eOp D.idx (eOp D.idx (eV 1) (eK (.int 2))) (eV 5)) (eTup [(eK (.str "wall"))]))) (tOf (eOp D.eq (eLc [12] (gOne 12) (iV (eV 6)) (tOf (eOp D.isIn (eV 12) (eOp D.idx (eB 4) (eV 5)))) (eV 12)) (eLst [])))) (sApp 7 (eV 5)) (fun ρ => Out.nx ρ))) (sSeq (sIf (tOf (eOp D.ne (eCall f_lost [(eV 1)]) (eB 7))) (sRet (eK (.bl false))) (fun ρ => Out.nx ρ)) (sSeq (sSetF 7 (eLst [])) (sSeq (sFor [5, 11] (gOne 5) (iV (eV 3)) (sSeq (sSetF 11 (eLst [(eV 5)])) (sSeq (sWhile 100000 [] (tAndM (tOf (eOp D.eq (eBf bLen [(eOp D.idx (eOp D.idx (eV 2) (eK (.int 0))) (eOp D.idx (eB 11) (eNeg (eK (.int 1)))))]) (eK (.int 1)))) (tOf (eOp D.notIn (eOp D.idx (eOp D.idx (eOp D.idx (eV 2) (eK (.int 0))) (eOp D.idx (eB 11) (eNeg (eK (.int 1))))) (eK (.int 0))) (eB 11)))) (sApp 11 (eOp D.idx (eOp D.idx (eOp D.idx (eV 2) (eK (.int 0))) (eOp D.idx (eB 11) (eNeg (eK (.int 1))))) (eK (.int 0))))) (sIf (tAndM (tOf (eOp D.eq (eOp D.idx (eOp D.idx (eV 2) (eK (.int 0))) (eOp D.idx (eB 11) (eNeg (eK (.int 1))))) (eLst [(eV 5)]))) (tOf (eOp D.eq (eBf bMin [(eB 11)]) (eV 5)))) (sFz 11 (sApp 7 (eV 11))) (fun ρ => Out.nx ρ))))) (sSeq (sIf (tOf (eOp D.ne (eCall f_rings [(eV 1)]) (eB 7))) (sRet (eK (.bl false))) (fun ρ => Out.nx ρ)) (sSeq (sSet 8 (eOp D.idx (eLst [(eNeg (eK (.int 1))), (eBf bLen [(eOp D.idx (eV 1) (eK (.int 2)))]), (eK .non), (eK (.bl true)), (eK (.str "0"))]) (eOp D.mod (eCall f__law_cell [(eV 0), (eK (.int 4))]) (eK (.int 5))))) (sRet (eOp D.eq (eLc [14] (gOne 14) (iV (eTup [(eK (.int 0)), (eK (.int 1))])) pYes (eCall f__law_word [(eV 14), (eV 1), (eV 8), (eK .non)])) (eLst [(eK (.str "cell")), (eK (.str "cell"))])))))))))))))))))
def f_law : List D → R D := runM 15 b_law
def d_law : He.DefD := ⟨("law", none), "law", "law", defArgs s_law, defBody s_law, defScope s_law, [], []⟩
theorem ok_law (T : Txt K mg) {fd : FuncData} (F : FunD K "law" "law" (defArgs s_law) (defBody s_law) (defScope s_law) [] [] (He.fAd K ("law", none)) fd) (G__law_cell : Fn K mg P w base "_law_cell" 2 1 f__law_cell) (G__law_floor : Fn K mg P w base "_law_floor" 2 3 f__law_floor) (G__law_net : Fn K mg P w base "_law_net" 1 4 f__law_net) (G__law_word : Fn K mg P w base "_law_word" 4 8 f__law_word) (G_lost : Fn K mg P w base "lost" 1 5 f_lost) (G_reach : Fn K mg P w base "reach" 2 6 f_reach) (G_rings : Fn K mg P w base "rings" 1 5 f_rings) (G_sources : Fn K mg P w base "sources" 2 6 f_sources) : FnOk P w K mg base (L2.CX P w) 9 (He.fAd K ("law", none)) fd ["_law_script"] (spM K mg 1 f_law) := by
  have SC := sc_law
  exact fn_okF (N := ["_law_script", "_law_floor_here", "_law_net_here", "_law_cells", "_law_far", "_law_cell_here", "_law_ends", "_law_want", "_law_bad", "_law_found", "_law_k", "_law_path", "_law_one", "_law_other", "_law_way"]) (ps := ["_law_script"]) F sc_law rfl fun cdv A outer s H E F0 hr tk hp => (sm_cons (sm_set (i := 1) SC.nd rfl (.inr rfl) (em_call G__law_floor hr (by decide) tk rfl (am_cons (em_v 0 rfl (.inl rfl)) (am_cons em_int am_nil)))) (sm_cons (sm_set (i := 2) SC.nd rfl (.inl rfl) (em_call G__law_net hr (by decide) tk rfl (am_cons (em_v 1 rfl (.inr (.inl rfl))) am_nil))) (sm_cons (sm_set (i := 3) SC.nd rfl (.inl rfl) (PFm.em (fm_lrng rfl rfl T.m_list rfl T.m_range (PEm.bo (em_bf cm_len rfl T.m_len PySem.boot_len (ab_cons (PEm.bo (em_idx (hu65 hr) (PEm.bo (em_v 1 rfl (.inr (.inl rfl)))) (PEm.bo em_int))) ab_nil)))))) (sm_cons (sm_setF (i := 4) SC.nd rfl (.inr rfl) (fm_lst am_nil)) (sm_cons (sm_for hp rfl (im_any (em_v 3 rfl (.inl rfl))) (gok_one 5) (pg_name (i := 5) SC.nd rfl (.inr rfl)) (fun _ => (sm_cons (sm_setF (i := 9) SC.nd rfl (.inl rfl) (fm_disp (.cons (em_v 5 rfl (.inr (.inl rfl))) em_bl .nil))) (sm_cons (sm_for hp rfl (im_any (em_v 3 rfl (.inl rfl))) (gok_one 10) (pg_name (i := 10) SC.nd rfl (.inl rfl)) (fun _ => (sm_one (sm_for hp rfl (im_any (PFm.em (fm_ty (cf_listD rfl) rfl T.m_list (by decide +kernel) (ab_cons (bm_v 9 rfl (.inl rfl)) ab_nil)))) (gok_one 12) (pg_name (i := 12) SC.nd rfl (.inl rfl)) (fun _ => (sm_one (sm_for hp rfl (im_any (em_idx (hu65 hr) (PEm.bo (em_idx (hu65 hr) (PEm.bo (em_v 2 rfl (.inl rfl))) (PEm.bo em_int))) (PEm.bo (em_v 12 rfl (.inl rfl))))) (gok_one 13) (pg_name (i := 13) SC.nd rfl (.inl rfl)) (fun _ => (sm_one (sm_sub (i := 9) (hu65 hr) em_bl (PEm.bo (em_v 13 rfl (.inl rfl))) rfl (.inl rfl))))))))))) (sm_one (sm_append 4 (em_bf (cm_sorted rfl) rfl T.m_sorted (by decide +kernel) (ab_cons (bm_v 9 rfl (.inl rfl)) ab_nil)) rfl (.inr (.inl rfl)))))))) (sm_cons (sm_for hp rfl (im_any (em_v 3 rfl (.inl rfl))) (gok_one 5) (pg_name (i := 5) SC.nd rfl (.inr rfl)) (fun _ => (sm_cons (sm_if (tm_cmp (opm_ne hr.units) (PEm.bo (em_call G_reach hr (by decide) tk rfl (am_cons (em_v 1 rfl (.inr (.inl rfl))) (am_cons (em_v 5 rfl (.inr (.inl rfl))) am_nil)))) (PEm.bo (em_idx (hu65 hr) (bm_v 4 rfl (.inr (.inl rfl))) (PEm.bo (em_v 5 rfl (.inr (.inl rfl)))))) (nomark _)) (sm_one (sm_ret em_bl)) sm_nil) (sm_one (sm_if (tm_cmp (opm_ne hr.units) (PEm.bo (em_call G_sources hr (by decide) tk rfl (am_cons (em_v 1 rfl (.inr (.inl rfl))) (am_cons (em_v 5 rfl (.inr (.inl rfl))) am_nil)))) (PFm.bo (fm_lc (own := [("_law_one", 12)]) rfl SC.nd (im_any (em_v 3 rfl (.inl rfl))) (blkOk_by (own := [("_law_one", 12)]) (by with_unfolding_all rfl)) (gok_one 12) (fun _ _ _ _ _ => (pg_name (i := 12) SC.nd rfl (.inl rfl))) (fun _ _ _ _ _ => (tsm_one (tm_cmp (opm_in (hu65 hr)) (PEm.bo (em_v 5 rfl (.inr (.inl rfl)))) (PEm.bo (em_idx (hu65 hr) (bm_v 4 rfl (.inr (.inl rfl))) (PEm.bo (em_v 12 rfl (.inl rfl))))) (by with_unfolding_all rfl)))) (fun _ _ _ _ _ => (em_v 12 rfl (.inl rfl))))) (nomark _)) (sm_one (sm_ret em_bl)) sm_nil))))) (sm_cons (sm_setLc (i := 6) (own := [("_law_cell_here", 5)]) rfl SC.nd rfl rfl (sw_true rfl rfl rfl (by decide +kernel)) (im_any (em_v 3 rfl (.inl rfl))) (blkOk_by (own := [("_law_cell_here", 5)]) (by with_unfolding_all rfl)) (gok_one 5) (fun _ _ _ _ _ => (pg_name (i := 5) SC.nd rfl (.inl rfl))) (fun _ _ _ _ _ => (tsm_one (tm_cmp (opm_eq hr.units) (PEm.bo (em_idx (hu65 hr) (PEm.bo (em_idx (hu65 hr) (PEm.bo (em_v 1 rfl (.inr (.inl rfl)))) (PEm.bo em_int))) (PEm.bo (em_v 5 rfl (.inl rfl))))) (PEm.bo (em_tup (am_cons em_str am_nil))) (nomark _)))) (fun _ _ _ _ _ => (em_v 5 rfl (.inl rfl)))) (sm_cons (sm_setF (i := 7) SC.nd rfl (.inl rfl) (fm_lst am_nil)) (sm_cons (sm_for hp rfl (im_any (em_v 3 rfl (.inl rfl))) (gok_one 5) (pg_name (i := 5) SC.nd rfl (.inr rfl)) (fun _ => (sm_one (sm_if (PWm.t (wm_and (tm_cmp (opm_ne hr.units) (PEm.bo (em_idx (hu65 hr) (PEm.bo (em_idx (hu65 hr) (PEm.bo (em_v 1 rfl (.inr (.inl rfl)))) (PEm.bo em_int))) (PEm.bo (em_v 5 rfl (.inr (.inl rfl)))))) (PEm.bo (em_tup (am_cons em_str am_nil))) (nomark _)) (wm_and1 (tm_cmp (opm_eq hr.units) (PFm.bo (fm_lc (own := [("_law_one", 12)]) rfl SC.nd (im_any (em_v 6 rfl (.inl rfl))) (blkOk_by (own := [("_law_one", 12)]) (by with_unfolding_all rfl)) (gok_one 12) (fun _ _ _ _ _ => (pg_name (i := 12) SC.nd rfl (.inl rfl))) (fun _ _ _ _ _ => (tsm_one (tm_cmp (opm_in (hu65 hr)) (PEm.bo (em_v 12 rfl (.inl rfl))) (PEm.bo (em_idx (hu65 hr) (bm_v 4 rfl (.inr (.inl rfl))) (PEm.bo (em_v 5 rfl (.inr (.inl rfl)))))) (by with_unfolding_all rfl)))) (fun _ _ _ _ _ => (em_v 12 rfl (.inl rfl))))) (PFm.bo (fm_lst am_nil)) (nomark _))))) (sm_one (sm_append 7 (em_v 5 rfl (.inr (.inl rfl))) rfl (.inl rfl))) sm_nil)))) (sm_cons (sm_if (tm_cmp (opm_ne hr.units) (PEm.bo (em_call G_lost hr (by decide) tk rfl (am_cons (em_v 1 rfl (.inr (.inl rfl))) am_nil))) (bm_v 7 rfl (.inl rfl)) (nomark _)) (sm_one (sm_ret em_bl)) sm_nil) (sm_cons (sm_setF (i := 7) SC.nd rfl (.inl rfl) (fm_lst am_nil)) (sm_cons (sm_for hp rfl (im_any (em_v 3 rfl (.inl rfl))) (gok_one 5) (pg_name (i := 5) SC.nd rfl (.inr rfl)) (fun _ => (sm_cons (sm_setF (i := 11) SC.nd rfl (.inl rfl) (fm_lst (am_cons (em_v 5 rfl (.inr (.inl rfl))) am_nil))) (sm_cons (sm_while hp (PWm.t (wm_and (tm_cmp (opm_eq hr.units) (PEm.bo (em_bf cm_len rfl T.m_len PySem.boot_len (ab_cons (PEm.bo (em_idx (hu65 hr) (PEm.bo (em_idx (hu65 hr) (PEm.bo (em_v 2 rfl (.inl rfl))) (PEm.bo em_int))) (PEm.bo (em_idx (hu65 hr) (bm_v 11 rfl (.inl rfl)) (PEm.bo (em_neg (PEm.bo em_int))))))) ab_nil))) (PEm.bo em_int) (nomark _)) (wm_and1 (tm_cmp (opm_notIn (hu65 hr)) (PEm.bo (em_idx (hu65 hr) (PEm.bo (em_idx (hu65 hr) (PEm.bo (em_idx (hu65 hr) (PEm.bo (em_v 2 rfl (.inl rfl))) (PEm.bo em_int))) (PEm.bo (em_idx (hu65 hr) (bm_v 11 rfl (.inl rfl)) (PEm.bo (em_neg (PEm.bo em_int))))))) (PEm.bo em_int))) (bm_v 11 rfl (.inl rfl)) (by with_unfolding_all rfl))))) (sm_one (sm_append 11 (em_idx (hu65 hr) (PEm.bo (em_idx (hu65 hr) (PEm.bo (em_idx (hu65 hr) (PEm.bo (em_v 2 rfl (.inl rfl))) (PEm.bo em_int))) (PEm.bo (em_idx (hu65 hr) (bm_v 11 rfl (.inl rfl)) (PEm.bo (em_neg (PEm.bo em_int))))))) (PEm.bo em_int)) rfl (.inl rfl)))) (sm_one (sm_if (PWm.t (wm_and (tm_cmp (opm_eq hr.units) (PEm.bo (em_idx (hu65 hr) (PEm.bo (em_idx (hu65 hr) (PEm.bo (em_v 2 rfl (.inl rfl))) (PEm.bo em_int))) (PEm.bo (em_idx (hu65 hr) (bm_v 11 rfl (.inl rfl)) (PEm.bo (em_neg (PEm.bo em_int))))))) (PFm.bo (fm_lst (am_cons (em_v 5 rfl (.inr (.inl rfl))) am_nil))) (nomark _)) (wm_and1 (tm_cmp (opm_eq hr.units) (PEm.bo (em_bf (cm_min rfl) rfl T.m_min (by decide +kernel) (ab_cons (bm_v 11 rfl (.inl rfl)) ab_nil))) (PEm.bo (em_v 5 rfl (.inr (.inl rfl)))) (nomark _))))) (sm_one (sm_fz 11 (sm_append 7 (em_v 11 rfl (.inl rfl)) rfl (.inl rfl)))) sm_nil)))))) (sm_cons (sm_if (tm_cmp (opm_ne hr.units) (PEm.bo (em_call G_rings hr (by decide) tk rfl (am_cons (em_v 1 rfl (.inr (.inl rfl))) am_nil))) (bm_v 7 rfl (.inl rfl)) (nomark _)) (sm_one (sm_ret em_bl)) sm_nil) (sm_cons (sm_set (i := 8) SC.nd rfl (.inr rfl) (em_idx (hu65 hr) (PFm.bo (fm_lst (am_cons (em_neg (PEm.bo em_int)) (am_cons (em_bf cm_len rfl T.m_len PySem.boot_len (ab_cons (PEm.bo (em_idx (hu65 hr) (PEm.bo (em_v 1 rfl (.inr (.inl rfl)))) (PEm.bo em_int))) ab_nil)) (am_cons em_non (am_cons em_bl (am_cons em_str am_nil))))))) (PEm.bo (em_bin opm_mod (PEm.bo (em_call G__law_cell hr (by decide) tk rfl (am_cons (em_v 0 rfl (.inl rfl)) (am_cons em_int am_nil)))) (PEm.bo em_int))))) (sm_one (sm_ret (em_cmp (opm_eq hr.units) (PFm.bo (fm_lc (own := [("_law_way", 14)]) rfl SC.nd (im_any (em_tup (am_cons em_int (am_cons em_int am_nil)))) (blkOk_by (own := [("_law_way", 14)]) (by with_unfolding_all rfl)) (gok_one 14) (fun _ _ _ _ _ => (pg_name (i := 14) SC.nd rfl (.inl rfl))) (fun _ _ _ _ _ => tsm_nil) (fun _ _ _ _ _ => (em_call G__law_word hr (by decide) takes0 rfl (am_cons (em_v 14 rfl (.inl rfl)) (am_cons (em_v 1 rfl (.inr (.inl rfl))) (am_cons (em_v 8 rfl (.inr (.inl rfl))) (am_cons em_non am_nil)))))))) (PFm.bo (fm_lst (am_cons em_str (am_cons em_str am_nil)))) (nomark _))))))))))))))))))
end
end L2.Pv.Lw

set_option Elab.async false
set_option linter.all false
set_option maxRecDepth 100000
set_option maxHeartbeats 4000000
set_option autoImplicit false
namespace L2.Pv.Lw
open PySem PySem.Spec PyProof.Rows
/-! ### the head -/
def hkd : HkD := ⟨6, [.glo "_law_cell", .glo "_law_seed", .glo "_law_pick", .glo "_law_cell_of", .glo "_law_floor", .glo "_law_at_side", .glo "_law_goals", .glo "_law_comers", .glo "_law_net", .glo "is_within", .glo "is_side", .glo "is_kind", .glo "is_cell", .glo "is_floor", .glo "look", .glo "look_cell", .glo "all_from", .glo "outs", .glo "beside", .glo "goals", .glo "reach", .glo "comers", .glo "sources", .glo "lost", .glo "rings", .glo "_law_asked", .glo "_law_word", .glo "law", .free "bool", .free "enumerate", .free "int", .free "isinstance", .free "len", .free "list", .free "min", .free "range", .free "sorted", .free "str", .free "tuple", .int "MOST_HIGH" 5, .int "MOST_WAIT" 5, .int "MOST_WIDE" 6, .glo "SIDES"] ++ excFa excs subX, [d__law_cell, d__law_seed, d__law_pick, d__law_cell_of, d__law_floor, d__law_at_side, d__law_goals, d__law_comers, d__law_net, d_is_within, d_is_side, d_is_kind, d_is_cell, d_is_floor, d_look, d_look_cell, d_all_from, d_outs, d_beside, d_goals, d_reach, d_comers, d_sources, d_lost, d_rings, d__law_asked, d__law_word, d_law], [], [("SIDES", [.str "n", .str "e", .str "s", .str "w"])], []⟩
theorem exc_mem : ∀ f, f ∈ excFa excs subX → f ∈ hkd.fa := fun f h => List.mem_append_right _ h
theorem txt {w : World} {K : PySem.W.Frag} {h : Heap} {mg : Str → Option Value} (X : K.In h) (G : h.Ns mainGlobals mg) (c : hkd.Says w K) : Txt K mg where
  m_bool := He.free_ok X G (He.SaysD.fact c.d 28 (f := .free "bool") rfl)
  m_enumerate := He.free_ok X G (He.SaysD.fact c.d 29 (f := .free "enumerate") rfl)
  m_int := He.free_ok X G (He.SaysD.fact c.d 30 (f := .free "int") rfl)
  m_isinstance := He.free_ok X G (He.SaysD.fact c.d 31 (f := .free "isinstance") rfl)
  m_len := He.free_ok X G (He.SaysD.fact c.d 32 (f := .free "len") rfl)
  m_list := He.free_ok X G (He.SaysD.fact c.d 33 (f := .free "list") rfl)
  m_min := He.free_ok X G (He.SaysD.fact c.d 34 (f := .free "min") rfl)
  m_range := He.free_ok X G (He.SaysD.fact c.d 35 (f := .free "range") rfl)
  m_sorted := He.free_ok X G (He.SaysD.fact c.d 36 (f := .free "sorted") rfl)
  m_str := He.free_ok X G (He.SaysD.fact c.d 37 (f := .free "str") rfl)
  m_tuple := He.free_ok X G (He.SaysD.fact c.d 38 (f := .free "tuple") rfl)
  c_MOST_HIGH := He.int_ok X G (He.SaysD.fact c.d 39 (f := .int "MOST_HIGH" 5) rfl)
  c_MOST_WAIT := He.int_ok X G (He.SaysD.fact c.d 40 (f := .int "MOST_WAIT" 5) rfl)
  c_MOST_WIDE := He.int_ok X G (He.SaysD.fact c.d 41 (f := .int "MOST_WIDE" 6) rfl)
  c_SIDES := c.tup X G 0 42 rfl rfl rfl
  x_BadCell := c.exF X G exc_mem (by decide)
  x_BadCount := c.exF X G exc_mem (by decide)
  x_BadFloor := c.exF X G exc_mem (by decide)
  x_BadState := c.exF X G exc_mem (by decide)
  x_BadText := c.exF X G exc_mem (by decide)
  x_TooLong := c.exF X G exc_mem (by decide)
  sub := c.subOk X G exc_mem
theorem facts {P : Program} {w : World} {K : PySem.W.Frag} {h : Heap} {mg : Str → Option Value} (X : K.In h) (G : h.Ns mainGlobals mg) (c : hkd.Says w K) {base : Heap} {fd : FuncData} (F : FunD K "law" "law" (defArgs s_law) (defBody s_law) (defScope s_law) [] [] (He.fAd K ("law", none)) fd) : FnOk P w K mg base (L2.CX P w) 9 (He.fAd K ("law", none)) fd ["_law_script"] (spM K mg 1 f_law) := by
  have T := txt X G c
  have G__law_cell := ok__law_cell (P := P) (w := w) (base := base) T (He.SaysD.def_ c.d 0 (d := d__law_cell) rfl) (He.glo_ok X G (He.SaysD.fact c.d 0 (f := .glo "_law_cell") rfl)) 
  have G__law_seed := ok__law_seed (P := P) (w := w) (base := base) T (He.SaysD.def_ c.d 1 (d := d__law_seed) rfl) (He.glo_ok X G (He.SaysD.fact c.d 1 (f := .glo "_law_seed") rfl)) 
  have G__law_pick := ok__law_pick (P := P) (w := w) (base := base) T (He.SaysD.def_ c.d 2 (d := d__law_pick) rfl) (He.glo_ok X G (He.SaysD.fact c.d 2 (f := .glo "_law_pick") rfl)) 
  have G__law_cell_of := ok__law_cell_of (P := P) (w := w) (base := base) T (He.SaysD.def_ c.d 3 (d := d__law_cell_of) rfl) (He.glo_ok X G (He.SaysD.fact c.d 3 (f := .glo "_law_cell_of") rfl)) G__law_pick
  have G__law_floor := ok__law_floor (P := P) (w := w) (base := base) T (He.SaysD.def_ c.d 4 (d := d__law_floor) rfl) (He.glo_ok X G (He.SaysD.fact c.d 4 (f := .glo "_law_floor") rfl)) G__law_cell G__law_cell_of G__law_seed
  have G__law_at_side := ok__law_at_side (P := P) (w := w) (base := base) T (He.SaysD.def_ c.d 5 (d := d__law_at_side) rfl) (He.glo_ok X G (He.SaysD.fact c.d 5 (f := .glo "_law_at_side") rfl)) 
  have G__law_goals := ok__law_goals (P := P) (w := w) (base := base) T (He.SaysD.def_ c.d 6 (d := d__law_goals) rfl) (He.glo_ok X G (He.SaysD.fact c.d 6 (f := .glo "_law_goals") rfl)) G__law_at_side
  have G__law_comers := ok__law_comers (P := P) (w := w) (base := base) T (He.SaysD.def_ c.d 7 (d := d__law_comers) rfl) (He.glo_ok X G (He.SaysD.fact c.d 7 (f := .glo "_law_comers") rfl)) G__law_at_side G__law_goals
  have G__law_net := ok__law_net (P := P) (w := w) (base := base) T (He.SaysD.def_ c.d 8 (d := d__law_net) rfl) (He.glo_ok X G (He.SaysD.fact c.d 8 (f := .glo "_law_net") rfl)) G__law_comers G__law_goals
  have G_is_within := ok_is_within (P := P) (w := w) (base := base) T (He.SaysD.def_ c.d 9 (d := d_is_within) rfl) (He.glo_ok X G (He.SaysD.fact c.d 9 (f := .glo "is_within") rfl)) 
  have G_is_side := ok_is_side (P := P) (w := w) (base := base) T (He.SaysD.def_ c.d 10 (d := d_is_side) rfl) (He.glo_ok X G (He.SaysD.fact c.d 10 (f := .glo "is_side") rfl)) 
  have G_is_kind := ok_is_kind (P := P) (w := w) (base := base) T (He.SaysD.def_ c.d 11 (d := d_is_kind) rfl) (He.glo_ok X G (He.SaysD.fact c.d 11 (f := .glo "is_kind") rfl)) 
  have G_is_cell := ok_is_cell (P := P) (w := w) (base := base) T (He.SaysD.def_ c.d 12 (d := d_is_cell) rfl) (He.glo_ok X G (He.SaysD.fact c.d 12 (f := .glo "is_cell") rfl)) G_is_kind G_is_side G_is_within
  have G_is_floor := ok_is_floor (P := P) (w := w) (base := base) T (He.SaysD.def_ c.d 13 (d := d_is_floor) rfl) (He.glo_ok X G (He.SaysD.fact c.d 13 (f := .glo "is_floor") rfl)) G_is_cell G_is_within
  have G_look := ok_look (P := P) (w := w) (base := base) T (He.SaysD.def_ c.d 14 (d := d_look) rfl) (He.glo_ok X G (He.SaysD.fact c.d 14 (f := .glo "look") rfl)) G_is_floor
  have G_look_cell := ok_look_cell (P := P) (w := w) (base := base) T (He.SaysD.def_ c.d 15 (d := d_look_cell) rfl) (He.glo_ok X G (He.SaysD.fact c.d 15 (f := .glo "look_cell") rfl)) G_is_within G_look
  have G_all_from := ok_all_from (P := P) (w := w) (base := base) T (He.SaysD.def_ c.d 16 (d := d_all_from) rfl) (He.glo_ok X G (He.SaysD.fact c.d 16 (f := .glo "all_from") rfl)) 
  have G_outs := ok_outs (P := P) (w := w) (base := base) T (He.SaysD.def_ c.d 17 (d := d_outs) rfl) (He.glo_ok X G (He.SaysD.fact c.d 17 (f := .glo "outs") rfl)) 
  have G_beside := ok_beside (P := P) (w := w) (base := base) T (He.SaysD.def_ c.d 18 (d := d_beside) rfl) (He.glo_ok X G (He.SaysD.fact c.d 18 (f := .glo "beside") rfl)) 
  have G_goals := ok_goals (P := P) (w := w) (base := base) T (He.SaysD.def_ c.d 19 (d := d_goals) rfl) (He.glo_ok X G (He.SaysD.fact c.d 19 (f := .glo "goals") rfl)) G_beside G_outs
  have G_reach := ok_reach (P := P) (w := w) (base := base) T (He.SaysD.def_ c.d 20 (d := d_reach) rfl) (He.glo_ok X G (He.SaysD.fact c.d 20 (f := .glo "reach") rfl)) G_all_from G_goals G_look_cell
  have G_comers := ok_comers (P := P) (w := w) (base := base) T (He.SaysD.def_ c.d 21 (d := d_comers) rfl) (He.glo_ok X G (He.SaysD.fact c.d 21 (f := .glo "comers") rfl)) G_beside G_goals
  have G_sources := ok_sources (P := P) (w := w) (base := base) T (He.SaysD.def_ c.d 22 (d := d_sources) rfl) (He.glo_ok X G (He.SaysD.fact c.d 22 (f := .glo "sources") rfl)) G_all_from G_comers G_look_cell
  have G_lost := ok_lost (P := P) (w := w) (base := base) T (He.SaysD.def_ c.d 23 (d := d_lost) rfl) (He.glo_ok X G (He.SaysD.fact c.d 23 (f := .glo "lost") rfl)) G_all_from G_goals G_look
  have G_rings := ok_rings (P := P) (w := w) (base := base) T (He.SaysD.def_ c.d 24 (d := d_rings) rfl) (He.glo_ok X G (He.SaysD.fact c.d 24 (f := .glo "rings") rfl)) G_goals G_look
  have G__law_asked := ok__law_asked (P := P) (w := w) (base := base) T (He.SaysD.def_ c.d 25 (d := d__law_asked) rfl) (He.glo_ok X G (He.SaysD.fact c.d 25 (f := .glo "_law_asked") rfl)) G_lost G_reach G_rings G_sources
  have G__law_word := ok__law_word (P := P) (w := w) (base := base) T (He.SaysD.def_ c.d 26 (d := d__law_word) rfl) (He.glo_ok X G (He.SaysD.fact c.d 26 (f := .glo "_law_word") rfl)) G__law_asked
  exact ok_law T F G__law_cell G__law_floor G__law_net G__law_word G_lost G_reach G_rings G_sources
abbrev Rw : PySem.W.OpenRow := PySem.W.OpenLaw.row PySem.Challenge.rw_beltturns_k06_ways
abbrev hk : PySem.W.Hook := hkd.hook
def ob (s : PySem.W.SharedT) : He.AlT × Bool := hkd.obsG (HandSHeadRun.getT s)
theorem ob_eq (s : PySem.W.SharedT) : ob s = hk.obs s.abs := hkd.obsG_eq (HandSHeadRun.getT_eq s)
abbrev others : List Str := (["BeltError", "BadFloor", "BadState", "BadCount", "BadCell", "BadText", "TooLong", "SIDES", "MOST_WIDE", "MOST_HIGH", "MOST_WAIT", "is_within", "is_side", "is_kind", "is_cell", "is_floor", "look", "beside", "outs", "goals", "comers", "look_cell", "all_from", "reach", "sources", "lost", "rings", "FREE", "first_state", "begin"] : List Str) ++ (["is_turn", "is_state", "look_state", "Net", "moves", "step", "after", "MOST_STEPS", "states_of", "round_of", "common", "shares", "stuck", "is_at_rest", "lacks", "rests", "NAMES", "cell_text", "shown", "_law_cell", "_law_seed", "_law_pick", "_law_cell_of", "_law_floor", "_law_at_side", "_law_goals", "_law_comers", "_law_net", "_law_word", "_law_asked"] : List Str)
theorem run (w : World) : HandSHeadRun.RunEq Rw (PySem.W.view Rw.prog [67]) hk ob 6000 others w := PySem.W.byRow2 "special-get-raises" (P := fun w => HandSHeadRun.RunEq Rw (PySem.W.view Rw.prog [67]) hk ob 6000 others w) (fun w => by intro os; kernel_rfl) (fun w => by intro os; kernel_rfl) w
open PySem PySem.W PySem.Calls PyProof.Rows in
theorem law_holds (hf : ∀ ns : List Int, ns.length ≤ 63 → f_law [.scr ns] = .ok (.bl true)) : PySem.Challenge.rw_beltturns_k06_ways.Holds := by
  w_on; o_law
  refine HandSHeadRun.head_any (r := OpenLaw.row PySem.Challenge.rw_beltturns_k06_ways) (q := view (OpenLaw.row PySem.Challenge.rw_beltturns_k06_ways).prog [67]) (H := hk) (ob := ob) (M := 6000) (loose := others) (d := HandSHeadRun.topDef (OpenLaw.row PySem.Challenge.rw_beltturns_k06_ways).prog 67) (kwd := []) ob_eq
    (by kernel_rfl) (fun s => by kernel_rfl) run (by kernel_rfl) (by kernel_rfl) (by kernel_rfl) (by rfl) (by first | assumption | decide +kernel) (by decide +kernel) ⟨rfl, rfl, rfl, rfl, rfl, by decide +kernel⟩ ?hw ?hc
  case hw => w_witness2
  case hc =>
    refine walk_pv (l := PySem.Challenge.rw_beltturns_k06_ways) (n := 63) (k := 9) (x := "_law_script") (f := f_law) rfl (by decide) (by kernel_rfl) ⟨rfl, by decide, by decide⟩ hf ?F
    intro w mg fa h Y G hmg0
    obtain ⟨K, KX, c⟩ := Y
    have hmg : mg ("law" : PySem.Str) = some (.ref fa) := by
      have e : (HandSHeadRun.topDef (OpenLaw.row PySem.Challenge.rw_beltturns_k06_ways).prog 67).name = ("law" : PySem.Str) := by kernel_rfl
      rw [← e]
      exact hmg0
    obtain ⟨fd, F⟩ := He.SaysD.def_ c.d 27 (d := d_law) rfl
    have e := hmg.symm.trans (He.glo_ok KX G (He.SaysD.fact c.d 27 (f := .glo "law") rfl))
    cases e
    have b := FunD.bindsA (ps := ["_law_script"]) F fun _ _ _ _ _ _ us hl => match us, hl with | [_], _ => rfl
    refine ⟨K, fd, KX, fun s v => b s [v] rfl, fun base _ _ => ?_⟩
    exact facts (P := (PySem.Challenge.rw_beltturns_k06_ways).prog) (w := w) KX G c F
section
end
end L2.Pv.Lw

set_option maxRecDepth 100000
set_option maxHeartbeats 1000000
set_option linter.all false
set_option Elab.async false
set_option autoImplicit false
namespace L2.Pv.Lw
open PySem PySem.Spec PyProof.Rows L2.Pv
theorem within_eq (v lo hi : Int) : f_is_within [.int v, .int lo, .int hi] = .ok (.bl (decide (lo ≤ v ∧ v ≤ hi))) := by
  by_cases h1 : lo ≤ v <;> by_cases h2 : v ≤ hi <;>
  simp [f_is_within, runM, b_is_within, startE, D.tyN, isTy, h1, h2]
theorem beside_eq {f : Fl} (ok : f.Ok) {c : Nat} (h : c < f.size) (s : Side) : f_beside [f.enc, .int c, .str s.str] = .ok (encO (f.beside c s)) := by
  simp only [f_beside, runM, b_beside, startE, Fl.enc]
  simp [mod_w ok, div_w ok, mul_w ok, -Bool.not_eq_true]
  unfold Fl.beside
  rw [Int.natCast_emod, Int.natCast_ediv]
  generalize (c : Int) % f.wide + Side.pick 0 1 0 (-1) s = a
  generalize (c : Int) / f.wide + Side.pick (-1) 0 1 0 s = d
  by_cases h1 : 0 ≤ a <;> by_cases h2 : a < f.wide <;> by_cases h3 : 0 ≤ d <;> by_cases h4 : d < f.high <;> simp [h1, h2, h3, h4, mul_w ok, encO]
  obtain ⟨t, e, ht⟩ := Fl.place ok h1 h2 h3 h4
  rw [e]
  by_cases hw : f.at t = .wall <;> simp [Fl.cell ht, hw]
theorem outs_eq {f : Fl} {c : Nat} (h : c < f.size) : f_outs [f.enc, .int c] = .ok (.lst ((f.at c).outs.map fun s => .str s.str)) := by
  have hc := Fl.cell h
  simp only [f_outs, runM, b_outs, startE, Fl.enc]
  simp [hc]
  cases f.at c <;> simp [Cell.word, Cell.enc, Cell.outs]
theorem goals_eq {f : Fl} (ok : f.Ok) {c : Nat} (h : c < f.size) : f_goals [f.enc, .int c] = .ok (.lst (nats (f.goals c))) := by
  have hl := outs_len (f.at c)
  simp only [f_goals, runM, b_goals, startE]
  simp [outs_eq h]
  rw [if_pos (by unfold lim; omega), compD_map _ (fun s => encO (f.beside c s)) _ fun s _ => ⟨_, rfl, by simp [beside_eq ok h]⟩]
  simp
  rw [if_pos (by unfold lim; omega)]
  have e : (f.at c).outs.map (fun s => encO (f.beside c s)) = ((f.at c).outs.map (f.beside c)).map encO := by simp
  rw [e, compD_fm encO (fun o => o.isSome) encO _ fun o _ => ⟨_, rfl, by cases o <;> simp [encO], fun _ => by simp⟩, fm_enc]
  rfl
theorem comers_eq {f : Fl} (ok : f.Ok) {c : Nat} (h : c < f.size) : f_comers [f.enc, .int c] = .ok (.lst (nats (f.comers c))) := by
  simp only [f_comers, runM, b_comers, startE]
  simp
  rw [(forD_run (fun s : Side => D.str s.str) (fun l : List Nat => [some (.val f.enc), some (.val (.int c)), some (.own (.lst (nats l))), none, none])
    (f.comeStep c) (fun i l => l.length ≤ i) sides [] ?hd ?hr ?hi ?h).1]
  case hd => rfl
  case hr => rfl
  case hi => simp
  case h =>
    intro i l s hs hl
    have hi : i < 4 := (List.getElem?_eq_some_iff.mp hs).1
    unfold Fl.comeStep
    simp [beside_eq ok h]
    cases hb : f.beside c s with
    | none => simp [encO]; omega
    | some o =>
      have ho := beside_lt ok hb
      by_cases hc : c ∈ f.goals o
      · simp [encO, goals_eq ok ho, hc]
        rw [if_pos (by unfold lim; omega)]
        simp [nats_app]
        omega
      · simp [encO, goals_eq ok ho, hc]
        omega
  rw [comeStep_fold]
  simp
  rfl
end L2.Pv.Lw

set_option maxRecDepth 100000
set_option maxHeartbeats 1000000
set_option linter.all false
set_option Elab.async false
set_option autoImplicit false
namespace L2.Pv.Lw
open PySem PySem.Spec PyProof.Rows L2.Pv
theorem cell_eq (ns : List Int) (k : Nat) : f__law_cell [.scr ns, .int k] = .ok (.int (cellI ns k)) := by
  simp only [f__law_cell, runM, b__law_cell, startE]
  simp
  by_cases h : k < ns.length
  · simp [h, idx_scr h]
  · have e : cellI ns k = 0 := by unfold cellI; rw [List.getD_eq_getElem?_getD, List.getElem?_eq_none (by omega)]; rfl
    simp [h, e]
theorem seed_eq (s : Int) {k : Int} (h : -1000000 < k ∧ k < 1000000) : f__law_seed [.int s, .int k] = .ok (.int (seedI s k)) := by
  have p0 := Int.emod_nonneg (s * 1103515245 + 7919 * k + 12345) (show (2147483647 : Int) ≠ 0 by decide)
  have p1 := Int.emod_lt_of_pos (s * 1103515245 + 7919 * k + 12345) (show (0 : Int) < 2147483647 by decide)
  simp only [f__law_seed, runM, b__law_seed, startE]
  simp [d_mul, smallI, d_mod]
  have e : D.pow (.int ((s * 1103515245 + 7919 * k + 12345) % 2147483647)) (.int 5) = some (.int (((s * 1103515245 + 7919 * k + 12345) % 2147483647) ^ 5)) := by
    show (if _ then _ else _) = _
    rw [if_pos]
    · rfl
    · simp; omega
  rw [e]
  simp [d_mod, seedI]
theorem pick_eq {s : Int} {m : Int} (h : 0 < m) : f__law_pick [.int s, .int m] = .ok (.int (s / 97 % m)) := by
  simp only [f__law_pick, runM, b__law_pick, startE]
  simp [d_fdiv, d_mod, h]
theorem cell_of_ok (s : Int) (sd : Side) : ∃ c : Cell, c.Ok ∧ f__law_cell_of [.int s, .str sd.str] = .ok c.enc := by
  have m4 := fun x : Int => And.intro (Int.emod_nonneg x (show (4 : Int) ≠ 0 by decide)) (Int.emod_lt_of_pos x (show (0 : Int) < 4 by decide))
  have m3 := fun x : Int => And.intro (Int.emod_nonneg x (show (3 : Int) ≠ 0 by decide)) (Int.emod_lt_of_pos x (show (0 : Int) < 3 by decide))
  have m5 := fun x : Int => And.intro (Int.emod_nonneg x (show (5 : Int) ≠ 0 by decide)) (Int.emod_lt_of_pos x (show (0 : Int) < 5 by decide))
  obtain ⟨s1, e1, _⟩ := idx_nesw_str (s / 7 % 4) (m4 _).1 (m4 _).2
  have e3 := idx_abc_str (s / 13 % 3) (m3 _).1 (m3 _).2
  obtain ⟨s2, e2, q2⟩ := idx_nesw_str ((Side.pick 0 1 2 3 sd + 1 + s / 19 % 3) % 4) (m4 _).1 (m4 _).2
  simp only [f__law_cell_of, runM, b__law_cell_of, startE]
  simp [d_fdiv, d_mod, e1, pick_eq, D.isStr, index_nesw, e2, e3]
  by_cases h6 : s / 97 % 12 < 6
  · by_cases h11 : 0 < s / 11 % 4
    · exact ⟨.belt sd, trivial, by simp [h6, h11, Cell.enc]⟩
    · exact ⟨.belt s1, trivial, by simp [h6, h11, Cell.enc]⟩
  by_cases h66 : s / 97 % 12 = 6
  · exact ⟨.wall, trivial, by simp [h66, Cell.enc]⟩
  by_cases h9 : s / 97 % 12 < 9
  · refine ⟨.well sd (s / 13 % 3).toNat (1 + s / 17 % 5).toNat, ⟨?_, ?_, ?_⟩, ?_⟩
    · have := m3 (s / 13); omega
    · have := m5 (s / 17); omega
    · have := m5 (s / 17); omega
    · have := m5 (s / 17)
      have q : ((1 + s / 17 % 5).toNat : Int) = 1 + s / 17 % 5 := Int.toNat_of_nonneg (by omega)
      simp [h6, h66, h9, Cell.enc, d_fdiv, d_mod, e3]
      omega
  by_cases h99 : s / 97 % 12 = 9
  · exact ⟨.fin, trivial, by simp [h99, Cell.enc]⟩
  · refine ⟨.parter sd s2, ?_, by simp [h6, h66, h9, h99, Cell.enc, index_nesw, d_fdiv, d_mod, e2]⟩
    have := m3 (s / 19)
    intro he
    subst he
    have : s / 19 % 3 = 0 ∨ s / 19 % 3 = 1 ∨ s / 19 % 3 = 2 := by omega
    rcases this with h | h | h <;> rw [h] at q2 <;> cases sd <;> revert q2 <;> decide
end L2.Pv.Lw

set_option maxRecDepth 100000
set_option maxHeartbeats 1000000
set_option linter.all false
set_option Elab.async false
set_option autoImplicit false
namespace L2.Pv.Lw
open PySem PySem.Spec PyProof.Rows L2.Pv
theorem cell_eqI (ns : List Int) {j : Int} (h : 0 ≤ j) : f__law_cell [.scr ns, .int j] = .ok (.int (cellI ns j.toNat)) := by
  have := cell_eq ns j.toNat
  rw [Int.toNat_of_nonneg h] at this
  exact this
theorem floor_turn (ns : List Int) (k W H down : Nat) (hW : 1 ≤ W) (hW6 : W ≤ 6) (hd : down < 5) (hk : k ≤ 1000) {i : Nat} {ρ : Env} (hi : i < W)
    (h : ∃ cs : List Cell, cs.length = down * W + i ∧ (∀ c ∈ cs, c.Ok) ∧ ρ = [some (.val (.scr ns)), some (.val (.int k)), some (.val (.int W)), some (.val (.int H)), some (.own (.lst (cs.map Cell.enc))), some (.val (.int down)), none, none, none, none]) :
    ∃ ρ', turn [6, 7, 8, 9] ρ (.int i) (sSeq (sSet 7 (eOp D.idx (eLst [(eK (.str "e")), (eK (.str "w"))]) (eOp D.mod (eV 5) (eK (.int 2))))) (sSeq (sIf (tOf (eOp D.eq (eV 6) (eOp D.idx (eLst [(eOp D.sub (eV 2) (eK (.int 1))), (eK (.int 0))]) (eOp D.mod (eV 5) (eK (.int 2)))))) (sSet 7 (eK (.str "s"))) (fun ρ => Out.nx ρ)) (sSeq (sSet 8 (eCall f__law_seed [(eOp D.add (eCall f__law_cell [(eV 0), (eOp D.add (eV 1) (eK (.int 2)))]) (eOp D.mul (eK (.int 41)) (eOp D.add (eOp D.mul (eV 5) (eV 2)) (eV 6)))), (eV 6)])) (sSeq (sSet 9 (eCall f__law_cell_of [(eV 8), (eV 7)])) (sSeq (sIf (tAndM (tOf (eOp D.eq (eOp D.mod (eCall f__law_cell [(eV 0), (eOp D.add (eV 1) (eK (.int 3)))]) (eK (.int 3))) (eK (.int 0)))) (tOf (eOp D.gt (eOp D.mod (eOp D.fdiv (eV 8) (eK (.int 23))) (eK (.int 5))) (eK (.int 0))))) (sSet 9 (eTup [(eK (.str "belt")), (eV 7)])) (fun ρ => Out.nx ρ)) (sApp 4 (eV 9))))))) (gOne 6) = some (.inl ρ') ∧
      ∃ cs : List Cell, cs.length = down * W + (i + 1) ∧ (∀ c ∈ cs, c.Ok) ∧ ρ' = [some (.val (.scr ns)), some (.val (.int k)), some (.val (.int W)), some (.val (.int H)), some (.own (.lst (cs.map Cell.enc))), some (.val (.int down)), none, none, none, none] := by
  obtain ⟨cs, hl, hc, rfl⟩ := h
  have hmul : D.mul (.int down) (.int W) = some (.int (down * W)) := d_mul _ _ (.inr (by simp [smallI]; omega))
  have hmul2 : D.mul (.int 41) (.int (down * W + i)) = some (.int (41 * (down * W + i))) := d_mul _ _ (.inl (by simp [smallI]))
  obtain ⟨s0, hs0⟩ : ∃ s : Side, D.idx (.lst [.str "e", .str "w"]) (.int ((down : Int) % 2)) = some (.str s.str) := by
    have : (down : Int) % 2 = 0 ∨ (down : Int) % 2 = 1 := by omega
    rcases this with h | h <;> rw [h]
    · exact ⟨.e, idx_l0 _ _⟩
    · exact ⟨.w, idx_l1 _ _ _⟩
  obtain ⟨m, hm⟩ : ∃ m : Int, D.idx (.lst [.int ((W : Int) - 1), .int 0]) (.int ((down : Int) % 2)) = some (.int m) := by
    have : (down : Int) % 2 = 0 ∨ (down : Int) % 2 = 1 := by omega
    rcases this with h | h <;> rw [h]
    · exact ⟨_, idx_l0 _ _⟩
    · exact ⟨_, idx_l1 _ _ _⟩
  have fin : ∀ s : Side, ∃ ρ', ((sSeq (sSet 8 (eCall f__law_seed [(eOp D.add (eCall f__law_cell [(eV 0), (eOp D.add (eV 1) (eK (.int 2)))]) (eOp D.mul (eK (.int 41)) (eOp D.add (eOp D.mul (eV 5) (eV 2)) (eV 6)))), (eV 6)])) (sSeq (sSet 9 (eCall f__law_cell_of [(eV 8), (eV 7)])) (sSeq (sIf (tAndM (tOf (eOp D.eq (eOp D.mod (eCall f__law_cell [(eV 0), (eOp D.add (eV 1) (eK (.int 3)))]) (eK (.int 3))) (eK (.int 0)))) (tOf (eOp D.gt (eOp D.mod (eOp D.fdiv (eV 8) (eK (.int 23))) (eK (.int 5))) (eK (.int 0))))) (sSet 9 (eTup [(eK (.str "belt")), (eV 7)])) (fun ρ => Out.nx ρ)) (sApp 4 (eV 9)))))
      [some (.val (.scr ns)), some (.val (.int k)), some (.val (.int W)), some (.val (.int H)), some (.own (.lst (cs.map Cell.enc))), some (.val (.int down)), some (.val (.int i)), some (.val (.str s.str)), none, none]).loop [6, 7, 8, 9] = some (.inl ρ') ∧
      ∃ cs : List Cell, cs.length = down * W + (i + 1) ∧ (∀ c ∈ cs, c.Ok) ∧ ρ' = [some (.val (.scr ns)), some (.val (.int k)), some (.val (.int W)), some (.val (.int H)), some (.own (.lst (cs.map Cell.enc))), some (.val (.int down)), none, none, none, none] := by
    intro s
    obtain ⟨c, hc1, hc2⟩ := cell_of_ok (seedI (cellI ns (k + 2) + 41 * (down * W + i)) i) s
    have e2 := cell_eqI ns (j := (k : Int) + 2) (by omega)
    have e3 := cell_eqI ns (j := (k : Int) + 3) (by omega)
    rw [show ((k : Int) + 2).toNat = k + 2 from by omega] at e2
    have es := seed_eq (cellI ns (k + 2) + 41 * (down * W + i)) (k := i) (by omega)
    have hbig : cs.length < lim := by
      have : down * W ≤ 30 := Nat.mul_le_mul (show down ≤ 5 by omega) hW6
      exact Nat.lt_of_le_of_lt (show cs.length ≤ 100 by omega) lim100
    simp [e2, e3, hmul, hmul2, es, hc2, d_mod, d_fdiv, hbig]
    have put : ∀ c : Cell, c.Ok → ∃ cs' : List Cell, cs'.length = down * W + (i + 1) ∧ (∀ c ∈ cs', c.Ok) ∧ cs.map Cell.enc ++ [c.enc] = cs'.map Cell.enc := fun c h =>
      ⟨cs ++ [c], by simp [hl]; omega, fun d hd => by
        rcases List.mem_append.mp hd with hd | hd
        · exact hc d hd
        · rw [List.mem_singleton.mp hd]; exact h, by simp⟩
    obtain ⟨cs1, l1, k1, q1⟩ := put c hc1
    obtain ⟨cs2, l2, k2, q2⟩ := put (.belt s) trivial
    by_cases hA : cellI ns ((k : Int) + 3).toNat % 3 = 0
    · by_cases hB : 0 < seedI (cellI ns (k + 2) + 41 * (down * W + i)) i / 23 % 5
      · simp [hA, hB, hbig]
        exact ⟨cs2, l2, k2, q2⟩
      · simp [hA, hB, hbig]
        exact ⟨cs1, l1, k1, q1⟩
    · simp [hA, hbig]
      exact ⟨cs1, l1, k1, q1⟩
  rw [turn_one]
  have hmod : D.mod (.int down) (.int 2) = some (.int ((down : Int) % 2)) := d_mod _ _ (by decide)
  by_cases hx : (i : Int) = m
  · have := fin .s
    simpa [hs0, hm, hmod, hx, Side.str] using this
  · have := fin s0
    simpa [hs0, hm, hmod, hx] using this
theorem floor_ok (ns : List Int) (k : Nat) (hk : k ≤ 1000) : ∃ f : Fl, f.Ok ∧ f__law_floor [.scr ns, .int k] = .ok f.enc := by
  obtain ⟨W, hWe⟩ : ∃ W : Nat, 1 + cellI ns k % 6 = (W : Int) := ⟨(1 + cellI ns k % 6).toNat, by have := Int.emod_nonneg (cellI ns k) (show (6 : Int) ≠ 0 by decide); omega⟩
  obtain ⟨H, hHe⟩ : ∃ H : Nat, 1 + cellI ns (k + 1) % 5 = (H : Int) := ⟨(1 + cellI ns (k + 1) % 5).toNat, by have := Int.emod_nonneg (cellI ns (k + 1)) (show (5 : Int) ≠ 0 by decide); omega⟩
  have hW1 : 1 ≤ W := by have := Int.emod_nonneg (cellI ns k) (show (6 : Int) ≠ 0 by decide); omega
  have hW6 : W ≤ 6 := by have := Int.emod_lt_of_pos (cellI ns k) (show (0 : Int) < 6 by decide); omega
  have hH1 : 1 ≤ H := by have := Int.emod_nonneg (cellI ns (k + 1)) (show (5 : Int) ≠ 0 by decide); omega
  have hH5 : H ≤ 5 := by have := Int.emod_lt_of_pos (cellI ns (k + 1)) (show (0 : Int) < 5 by decide); omega
  have e1 := cell_eqI ns (j := (k : Int) + 1) (by omega)
  have e3 := cell_eqI ns (j := (k : Int) + 3) (by omega)
  rw [show ((k : Int) + 1).toNat = k + 1 from by omega] at e1
  rw [show ((k : Int) + 3).toNat = k + 3 from by omega] at e3
  simp only [f__law_floor, runM, b__law_floor, startE]
  simp [cell_eq, e1, d_mod, hWe, hHe, rg1_nat (show H ≤ 1000000 by omega)]
  generalize hX : forD _ _ _ _ _ = X
  obtain ⟨ρ', rfl, cs, hl, hc, rfl⟩ := inv_of hX (fun i ρ => ∃ cs : List Cell, cs.length = i * W ∧ (∀ c ∈ cs, c.Ok) ∧ ρ = [some (.val (.scr ns)), some (.val (.int k)), some (.val (.int W)), some (.val (.int H)), some (.own (.lst (cs.map Cell.enc))), none, none, none, none, none])
    ⟨[], by simp, by simp, rfl⟩ fun i d ρ hd hp => by
      obtain ⟨hi, rfl⟩ := nats_range_get hd
      obtain ⟨cs, hl, hc, rfl⟩ := hp
      rw [turn_one]
      simp [rg1_nat (show W ≤ 1000000 by omega)]
      generalize hY : forD _ _ _ _ _ = Y
      obtain ⟨ρ', rfl, cs', hl', hc', rfl⟩ := inv_of hY (fun j ρ => ∃ cs : List Cell, cs.length = i * W + j ∧ (∀ c ∈ cs, c.Ok) ∧ ρ = [some (.val (.scr ns)), some (.val (.int k)), some (.val (.int W)), some (.val (.int H)), some (.own (.lst (cs.map Cell.enc))), some (.val (.int i)), none, none, none, none])
        ⟨cs, hl, hc, rfl⟩ fun j d ρ hd hp => by
          obtain ⟨hj, rfl⟩ := nats_range_get hd
          exact floor_turn ns k W H i hW1 hW6 (by omega) hk hj hp
      simp at hl'
      refine ⟨_, rfl, cs', by rw [hl', Nat.succ_mul], hc', ?_⟩
      simp
  simp at hl
  have fin : ∀ cs' : List Cell, cs'.length = H * W → (∀ c ∈ cs', c.Ok) → (⟨W, H, cs'⟩ : Fl).Ok := fun cs' h1 h2 => ⟨hW1, hW6, hH1, hH5, by rw [h1]; exact Nat.mul_comm _ _, h2⟩
  have hpos : 0 < cs.length := by rw [hl]; exact Nat.mul_pos (by omega) (by omega)
  by_cases hA : cellI ns (k + 3) % 2 = 0
  · obtain ⟨w, hw⟩ : ∃ w : Nat, 1 + cellI ns (k + 3) / 2 % 3 = (w : Int) ∧ 1 ≤ w ∧ w ≤ 3 := ⟨(1 + cellI ns (k + 3) / 2 % 3).toNat, by
      have := Int.emod_nonneg (cellI ns (k + 3) / 2) (show (3 : Int) ≠ 0 by decide)
      have := Int.emod_lt_of_pos (cellI ns (k + 3) / 2) (show (0 : Int) < 3 by decide)
      omega⟩
    refine ⟨⟨W, H, (cs.set 0 (.well .e 0 w)).set (cs.length - 1) .fin⟩, fin _ (by simp [hl]) (fun c hm => ?_), ?_⟩
    · rcases List.mem_or_eq_of_mem_set hm with hm | rfl
      · rcases List.mem_or_eq_of_mem_set hm with hm | rfl
        · exact hc c hm
        · exact ⟨by decide, hw.2.1, by omega⟩
      · trivial
    · have hs0 := setAt_l (ds := cs.map Cell.enc) (k := 0) (by simpa using hpos) (.tup [.str "well", .str "e", .str "a", .int w])
      have hs1 := setAt_last (ds := (cs.map Cell.enc).set 0 (.tup [.str "well", .str "e", .str "a", .int w])) (by simpa using hpos) (.tup [.str "end"])
      simp at hs0 hs1
      simp [e3, d_mod, d_fdiv, hA, hw.1, hs0, hs1, bTuple, Fl.enc]
      rw [show (Cell.well Side.e 0 w).enc = D.tup [.str "well", .str "e", .str "a", .int w] from by with_unfolding_all rfl]
      rfl
  · refine ⟨⟨W, H, cs⟩, fin cs hl hc, ?_⟩
    simp [e3, d_mod, hA, Fl.enc, bTuple]
end L2.Pv.Lw

set_option maxRecDepth 100000
set_option maxHeartbeats 1000000
set_option linter.all false
set_option Elab.async false
set_option autoImplicit false
namespace L2.Pv.Lw
open PySem PySem.Spec PyProof.Rows L2.Pv
theorem is_side_eq (s : Side) : f_is_side [.str s.str] = .ok (.bl true) := by
  simp only [f_is_side, runM, b_is_side, startE]
  cases s <;> simp [D.tyN, isTy, Side.str]
theorem is_kind_eq {k : Nat} (h : k < 3) : f_is_kind [.str (kindS k)] = .ok (.bl true) := by
  simp only [f_is_kind, runM, b_is_kind, startE]
  have : k = 0 ∨ k = 1 ∨ k = 2 := by omega
  rcases this with h | h | h <;> subst h <;> with_unfolding_all rfl
theorem is_cell_eq {c : Cell} (h : c.Ok) : f_is_cell [c.enc] = .ok (.bl true) := by
  simp only [f_is_cell, runM, b_is_cell, startE]
  cases c with
  | wall => simp [Cell.enc, D.tyN, isTy]
  | fin => simp [Cell.enc, D.tyN, isTy]
  | belt s => simp [Cell.enc, D.tyN, isTy, is_side_eq]
  | parter s t =>
    have : s.str ≠ t.str := fun e => h (Side.str_inj e)
    simp [Cell.enc, D.tyN, isTy, is_side_eq, this]
  | well s k w =>
    have h1 := h.2.1; have h2 := h.2.2
    simp [Cell.enc, D.tyN, isTy, is_side_eq, is_kind_eq h.1, within_eq]
    omega
theorem is_floor_eq {f : Fl} (ok : f.Ok) : f_is_floor [f.enc] = .ok (.bl true) := by
  have w1 := ok.w1; have w6 := ok.w6; have h1 := ok.h1; have h5 := ok.h5; have hl := ok.len
  have hs := Fl.size_le ok
  unfold Fl.size at hs
  have hm : D.mul (.int f.wide) (.int f.high) = some (.int (f.wide * f.high)) := d_mul _ _ (.inr (by simp [smallI]; omega))
  simp only [f_is_floor, runM, b_is_floor, startE, Fl.enc]
  have a1 : (1 : Int) ≤ f.wide ∧ (f.wide : Int) ≤ 6 := by omega
  have a2 : (1 : Int) ≤ f.high ∧ (f.high : Int) ≤ 5 := by omega
  simp [D.tyN, isTy, within_eq, a1, a2, hm, hl]
  rw [if_pos (le_lim (by rw [← hl]; omega)), compD_fm Cell.enc (fun _ => false) Cell.enc f.cells fun c hc => ⟨_, rfl, by simp [is_cell_eq (ok.ok c hc)], fun h => by cases h⟩]
  simp
theorem look_eq {f : Fl} (ok : f.Ok) : f_look [f.enc] = .ok .non := by
  simp only [f_look, runM, b_look, startE]
  simp [is_floor_eq ok]
end L2.Pv.Lw

set_option maxRecDepth 100000
set_option maxHeartbeats 1000000
set_option linter.all false
set_option Elab.async false
set_option autoImplicit false
namespace L2.Pv.Lw
open PySem PySem.Spec PyProof.Rows L2.Pv
theorem at_side_eq {f : Fl} (ok : f.Ok) {c : Nat} (h : c < f.size) (s : Side) : f__law_at_side [f.enc, .int c, .str s.str] = .ok (encO (f.beside c s)) := by
  have e : ∀ x y : Int, D.idx (.dct false (mergeD [(.str "n", .tup [.int x, .int (y - 1)]), (.str "e", .tup [.int (x + 1), .int y]), (.str "s", .tup [.int x, .int (y + 1)]), (.str "w", .tup [.int (x - 1), .int y])])) (.str s.str) = some (.tup [.int (x + s.dx), .int (y + s.dy)]) := fun x y => by
    rw [idx_nesw]
    cases s <;> simp [Side.pick] <;> omega
  simp only [f__law_at_side, runM, b__law_at_side, startE]
  simp [mod_w ok, div_w ok, e]
  unfold Fl.beside
  rw [Int.natCast_emod, Int.natCast_ediv]
  generalize (c : Int) % f.wide + Side.pick 0 1 0 (-1) s = a
  generalize (c : Int) / f.wide + Side.pick (-1) 0 1 0 s = d
  by_cases h1' : a < 0
  · simp [h1', show ¬ 0 ≤ a by omega, encO]
  by_cases h3' : d < 0
  · simp [h1', h3', show ¬ 0 ≤ d by omega, encO]
  by_cases h2' : (f.wide : Int) ≤ a
  · simp [h1', h3', h2', show ¬ a < f.wide by omega, encO]
  by_cases h4' : (f.high : Int) ≤ d
  · simp [h1', h3', h2', h4', show ¬ d < f.high by omega, encO]
  have h1 : 0 ≤ a := by omega
  have h2 : a < f.wide := by omega
  have h3 : 0 ≤ d := by omega
  have h4 : d < f.high := by omega
  obtain ⟨t, e, ht⟩ := Fl.place ok h1 h2 h3 h4
  have ew : D.eq (f.at t).enc (.tup [.str "wall"]) = some (.bl (decide (f.at t = .wall))) := Cell.d_eq (Fl.at_ok ok t) (b := .wall) trivial
  by_cases hw : f.at t = .wall
  · rw [hw] at ew
    simp [Fl.cell ht, hw, h1, h2, h3, h4, h1', h2', h3', h4', ew, mul_w ok, e, encO]
  · simp [Fl.cell ht, hw, h1, h2, h3, h4, h1', h2', h3', h4', ew, mul_w ok, e, encO]
theorem disp_outs (c : Cell) (ρ : Env) : eGet2 (eDisp [((eK (.str "belt")), (eSl (eK c.enc) (some (eK (.int 1))) (some (eK (.int 2))))), ((eK (.str "well")), (eSl (eK c.enc) (some (eK (.int 1))) (some (eK (.int 2))))), ((eK (.str "parter")), (eSl (eK c.enc) (some (eK (.int 1))) (some (eK (.int 3)))))]) (eOp D.idx (eK c.enc) (eK (.int 0))) (eTup []) ρ = .ok (.tup (c.outs.map fun s => .str s.str)) := by
  have m : ∀ x y z : D, mergeD [(.str "belt", x), (.str "well", y), (.str "parter", z)] = [(.str "belt", x), (.str "well", y), (.str "parter", z)] := fun x y z => by
    simp [mergeD, D.put, same_lit]
  obtain ⟨x, hx⟩ : ∃ x, D.slice c.enc (some 1) (some 2) = some x := by cases c <;> exact ⟨_, rfl⟩
  obtain ⟨y, hy⟩ : ∃ x, D.slice c.enc (some 1) (some 3) = some x := by cases c <;> exact ⟨_, rfl⟩
  simp [hx, hy, m]
  cases c with
  | wall => simp [D.find, Cell.word, same_lit, Cell.outs]
  | fin => simp [D.find, Cell.word, same_lit, Cell.outs]
  | belt s => cases hx; simp [D.find, Cell.word, same_lit, Cell.outs]; rfl
  | well s k w => cases hx; simp [D.find, Cell.word, same_lit, Cell.outs]; rfl
  | parter s t => cases hy; simp [D.find, Cell.word, same_lit, Cell.outs]; rfl
theorem law_goals_eq {f : Fl} (ok : f.Ok) {c : Nat} (h : c < f.size) : f__law_goals [f.enc, .int c] = .ok (.lst (nats (f.goals c))) := by
  have hl := outs_len (f.at c)
  have hcell := Fl.cell h
  simp only [f__law_goals, runM, b__law_goals, startE]
  have e := disp_outs (f.at c)
  simp [-x_get2, hcell]
  have e2 : ∀ ρ : Env, slAt ρ 2 = some (.val (f.at c).enc) → eGet2 (eDisp [((eK (.str "belt")), (eSl (eV 2) (some (eK (.int 1))) (some (eK (.int 2))))), ((eK (.str "well")), (eSl (eV 2) (some (eK (.int 1))) (some (eK (.int 2))))), ((eK (.str "parter")), (eSl (eV 2) (some (eK (.int 1))) (some (eK (.int 3)))))]) (eOp D.idx (eV 2) (eK (.int 0))) (eTup []) ρ = .ok (.tup ((f.at c).outs.map fun s => .str s.str)) := fun ρ hρ => by
    have := e ρ
    simp at this ⊢
    rw [hρ]
    simpa using this
  rw [e2 _ rfl]
  simp
  rw [if_pos (le_lim (by omega)), compD_map _ (fun s => encO (f.beside c s)) _ fun s _ => ⟨_, rfl, by simp [at_side_eq ok h]⟩]
  simp
  rw [if_pos (le_lim (by omega))]
  have e : (f.at c).outs.map (fun s => encO (f.beside c s)) = ((f.at c).outs.map (f.beside c)).map encO := by simp
  rw [e, compD_fm encO (fun o => o.isSome) encO _ fun o _ => ⟨_, rfl, by cases o <;> simp [encO], fun _ => by simp⟩, fm_enc]
  rfl
theorem chars_nesw : D.items (.str "nesw") = some (sides.map fun s => D.str s.str) := by with_unfolding_all rfl
theorem fm_sides (g : Side → Option Nat) (q : Nat → Bool) : ∀ l : List Side, ((l.map g).filter fun o => match o with | some n => q n | none => false).map encO = nats ((l.filterMap g).filter q)
  | [] => rfl
  | s :: l => by
    have ih := fm_sides g q l
    unfold nats at ih ⊢
    cases h : g s with
    | none => simp [h, ih]
    | some n => by_cases hq : q n = true <;> simp [h, hq, ih, encO]
theorem law_comers_eq {f : Fl} (ok : f.Ok) {c : Nat} (h : c < f.size) : f__law_comers [f.enc, .int c] = .ok (.lst (nats (f.comers c))) := by
  simp only [f__law_comers, runM, b__law_comers, startE]
  simp [chars_nesw]
  rw [if_pos (le_lim (by decide)), compD_map _ (fun s => encO (f.beside c s)) _ fun s _ => ⟨_, rfl, by simp [at_side_eq ok h]⟩]
  simp
  rw [if_pos (le_lim (by decide))]
  have e : sides.map (fun s => encO (f.beside c s)) = (sides.map (f.beside c)).map encO := by simp
  rw [e, compD_fm encO (fun o => match o with | some n => decide (c ∈ f.goals n) | none => false) encO _ fun o ho => ⟨_, rfl, by
      cases o with
      | none => simp [encO]
      | some n =>
        obtain ⟨s, _, hs⟩ := List.mem_map.mp ho
        simp [encO, law_goals_eq ok (beside_lt ok hs)], fun _ => by simp⟩, fm_sides]
  rfl
theorem law_net_eq {f : Fl} (ok : f.Ok) : f__law_net [f.enc] = .ok (.tup [.lst ((List.range f.size).map fun c => .lst (nats (f.goals c))), .lst ((List.range f.size).map fun c => .lst (nats (f.comers c)))]) := by
  have hs := Fl.size_le ok
  simp only [f__law_net, runM, b__law_net, startE]
  simp
  have hz : f.cells.length = f.size := rfl
  simp [hz, show (f.size : Int) ≤ 1000000 by omega]
  rw [if_pos (le_lim (by omega)), compD_map (fun n : Nat => D.int n) (fun c => .lst (nats (f.goals c))) _ fun c hc => ⟨_, rfl, by simp [law_goals_eq ok (List.mem_range.mp hc)]⟩,
    compD_map (fun n : Nat => D.int n) (fun c => .lst (nats (f.comers c))) _ fun c hc => ⟨_, rfl, by simp [law_comers_eq ok (List.mem_range.mp hc)]⟩]
  simp [show f.size ≤ lim from le_lim (by omega)]
end L2.Pv.Lw

set_option maxRecDepth 100000
set_option maxHeartbeats 1000000
set_option linter.all false
set_option Elab.async false
set_option autoImplicit false
namespace L2.Pv.Lw
open PySem PySem.Spec PyProof.Rows L2.Pv
theorem look_cell_eq {f : Fl} (ok : f.Ok) {c : Nat} (h : c < f.size) : f_look_cell [f.enc, .int c] = .ok .non := by
  have hz : f.cells.length = f.size := rfl
  simp only [f_look_cell, runM, b_look_cell, startE]
  simp [look_eq ok, within_eq, hz, show (c : Int) ≤ f.size - 1 by omega]
theorem get_range {n i : Nat} (h : i < n) (g : Nat → D) : ((List.range n).map g)[i]? = some (g i) := by
  rw [List.getElem?_map, List.getElem?_range h]; rfl
theorem all_from_eq {G : Nat → List Nat} {n c : Nat} (hG : ∀ a b, b ∈ G a → b < n) (hn : ∀ a, (G a).Nodup) (h30 : n ≤ 30) (hc : c < n) :
    f_all_from [.int c, .lst ((List.range n).map fun i => .lst (nats (G i)))] = .ok (.lst (nats (allFrom G c))) ∧ ∃ l, ToList G c l ∧ allFrom G c = sortN l ∧ l.length ≤ 30 := by
  simp only [f_all_from, runM, b_all_from, startE]
  simp
  obtain ⟨e, i, q⟩ := while_run (junk := []) (p := tOf (eOp D.lt (eV 3) (eBf bLen [(eB 2)]))) (body := sSeq (sExt 2 (eLc [4] (gOne 4) (iV (eOp D.idx (eV 1) (eOp D.idx (eB 2) (eV 3)))) (tOf (eOp D.notIn (eV 4) (eB 2))) (eV 4))) (sAug 3 D.addI (eK (.int 1))))
    (fun s : List Nat × Nat => [some (.val (.int c)), some (.val (.lst ((List.range n).map fun i => .lst (nats (G i))))), some (.own (.lst (nats s.1))), some (.val (.int s.2)), none]) bfsCond (bfsStep G) (fun s => n + 1 - s.2) (BfsOk G n c)
    (fun s _ => by simp [bfsCond]) (fun s hs hb => by
      refine ⟨?_, bfs_step hG hn hs hb, bfs_meas hs hb⟩
      have hlt : s.2 < s.1.length := of_decide_eq_true hb
      have hl := nodup_len hs.nd hs.lt
      have hgl := nodup_len (hn (s.1.getD s.2 0)) (hG _)
      have e1 : D.idx (.lst (nats s.1)) (.int s.2) = some (.int (s.1.getD s.2 0 : Nat)) := idx_l (nats_get (by rw [List.getD_eq_getElem?_getD, List.getElem?_eq_getElem hlt]; rfl))
      have e2 : D.idx (.lst ((List.range n).map fun i => .lst (nats (G i)))) (.int (s.1.getD s.2 0 : Nat)) = some (.lst (nats (G (s.1.getD s.2 0)))) := idx_l (get_range (hs.lt _ (getD_mem hlt)) _)
      simp [-List.getD_eq_getElem?_getD, e1, e2]
      have e3 := compD_fm (gm := gOne 4) (p := tOf (eOp D.notIn (eV 4) (eB 2))) (me := eV 4) (ρ := [some (.val (.int c)), some (.val (.lst ((List.range n).map fun i => .lst (nats (G i))))), some (.own (.lst (nats s.1))), some (.val (.int s.2)), none])
        (fun x : Nat => D.int x) (fun x => !decide (x ∈ s.1)) (fun x : Nat => D.int x) (G (s.1.getD s.2 0)) fun x _ => ⟨_, rfl, by simp, fun _ => by simp⟩
      rw [if_pos (le_lim (by omega))]
      rw [show nats (G (s.1.getD s.2 0)) = (G (s.1.getD s.2 0)).map fun x : Nat => D.int x from rfl, e3]
      have hfl := List.length_filter_le (fun x => !decide (x ∈ s.1)) (G (s.1.getD s.2 0))
      simp [-List.getD_eq_getElem?_getD]
      rw [if_pos (le_lim (by omega))]
      simp [-List.getD_eq_getElem?_getD, bfsStep, nats_app]
      rfl) 100000 ([c], 0) (bfs_zero hc) (by show n + 1 - 0 < 100000; omega)
  have t := bfs_done i q
  have hl := nodup_len i.nd i.lt
  refine ⟨?_, _, t, rfl, by omega⟩
  simp at e
  rw [e]
  simp [sorted_nats (show (iterW bfsCond (bfsStep G) 100000 ([c], 0)).1.length < 64 by omega)]
  rfl
end L2.Pv.Lw

set_option maxRecDepth 100000
set_option maxHeartbeats 1000000
set_option linter.all false
set_option Elab.async false
set_option autoImplicit false
namespace L2.Pv.Lw
open PySem PySem.Spec PyProof.Rows L2.Pv
theorem reach_eq {f : Fl} (ok : f.Ok) {c : Nat} (h : c < f.size) : f_reach [f.enc, .int c] = .ok (.lst (nats (allFrom f.goals c))) := by
  have hs := Fl.size_le ok
  have hz : f.cells.length = f.size := rfl
  simp only [f_reach, runM, b_reach, startE]
  simp [look_cell_eq ok h, hz, rg1_nat (show f.size ≤ 1000000 by omega), show f.size ≤ lim from le_lim (by omega)]
  rw [show nats (List.range f.size) = (List.range f.size).map (fun n : Nat => D.int n) from rfl, compD_map (fun n : Nat => D.int n) (fun c => .lst (nats (f.goals c))) _ fun c hc => ⟨_, rfl, by simp [goals_eq ok (List.mem_range.mp hc)]⟩]
  simp [(all_from_eq (fun _ _ => goals_lt ok) (goals_nd ok) hs h).1]
theorem sources_eq {f : Fl} (ok : f.Ok) {c : Nat} (h : c < f.size) : f_sources [f.enc, .int c] = .ok (.lst (nats (allFrom f.comers c))) := by
  have hs := Fl.size_le ok
  have hz : f.cells.length = f.size := rfl
  simp only [f_sources, runM, b_sources, startE]
  simp [look_cell_eq ok h, hz, rg1_nat (show f.size ≤ 1000000 by omega), show f.size ≤ lim from le_lim (by omega)]
  rw [show nats (List.range f.size) = (List.range f.size).map (fun n : Nat => D.int n) from rfl, compD_map (fun n : Nat => D.int n) (fun c => .lst (nats (f.comers c))) _ fun c hc => ⟨_, rfl, by simp [comers_eq ok (List.mem_range.mp hc)]⟩]
  simp [(all_from_eq (fun _ _ => comers_lt ok) (comers_nd f) hs h).1]
theorem allFrom_lt {f : Fl} (ok : f.Ok) {c x : Nat} (h : c < f.size) (hx : x ∈ allFrom f.goals c) : x < f.size := by
  obtain ⟨l, t, e, _⟩ := (all_from_eq (fun _ _ => goals_lt ok) (goals_nd ok) (Fl.size_le ok) h).2
  rw [e, mem_sortN] at hx
  exact To.lt (fun _ _ => goals_lt ok) h ((t.mem x).mp hx)
theorem allFrom_len {f : Fl} (ok : f.Ok) {c : Nat} (h : c < f.size) : (allFrom f.goals c).length ≤ 30 := by
  obtain ⟨l, t, e, hl⟩ := (all_from_eq (fun _ _ => goals_lt ok) (goals_nd ok) (Fl.size_le ok) h).2
  rw [e, sortN_len]; exact hl
theorem lost_eq {f : Fl} (ok : f.Ok) : f_lost [f.enc] = .ok (.lst (nats f.lost)) := by
  have hs := Fl.size_le ok
  have hz : f.cells.length = f.size := rfl
  simp only [f_lost, runM, b_lost, startE]
  simp [look_eq ok, hz, rg1_nat (show f.size ≤ 1000000 by omega), show f.size ≤ lim from le_lim (by omega), enumD]
  rw [show nats (List.range f.size) = (List.range f.size).map (fun n : Nat => D.int n) from rfl, compD_map (fun n : Nat => D.int n) (fun c => .lst (nats (f.goals c))) _ fun c hc => ⟨_, rfl, by simp [goals_eq ok (List.mem_range.mp hc)]⟩]
  simp [enumD, enum_cells]
  generalize hX : forD _ _ _ _ _ = X
  obtain ⟨e, _⟩ := run_of hX (fun i : Nat => D.tup [.int i, (f.at i).enc]) (fun l : List Nat => [some (.val f.enc), some (.val (.lst ((List.range f.size).map fun c => .lst (nats (f.goals c))))), some (.own (.lst (nats l))), none, none, none]) f.lostStep (fun i l => l.length ≤ i) (List.range f.size) [] rfl rfl (Nat.zero_le _) fun i l c hc hl => by
    obtain ⟨hi, rfl⟩ := range_get' hc
    have ea := (all_from_eq (G := f.goals) (fun _ _ => goals_lt ok) (goals_nd ok) hs hi).1
    have e3 := compD_fm (gm := gOne 5) (p := tOf (eOp D.eq (eOp D.idx (eOp D.idx (eOp D.idx (eV 0) (eK (.int 2))) (eV 5)) (eK (.int 0))) (eK (.str "end")))) (me := eV 5)
      (ρ := [some (.val f.enc), some (.val (.lst ((List.range f.size).map fun c => .lst (nats (f.goals c))))), some (.own (.lst (nats l))), some (.val (.int c)), some (.val (f.at c).enc), none])
      (fun x : Nat => D.int x) (fun x => decide (f.at x = .fin)) (fun x : Nat => D.int x) (allFrom f.goals c) fun x hx => ⟨_, rfl, by
        have := Fl.cell (allFrom_lt ok hi hx)
        simp [this], fun _ => by simp⟩
    refine ⟨?_, by
      unfold Fl.lostStep
      split
      · simp; omega
      · omega⟩
    rw [turn_two]
    unfold Fl.lostStep
    by_cases hw : f.at c = .wall
    · simp [hw]
    · simp [hw, ea]
      rw [if_pos (le_lim (by have := allFrom_len ok hi; omega)), show nats (allFrom f.goals c) = (allFrom f.goals c).map (fun x : Nat => D.int x) from rfl, e3]
      by_cases hq : (allFrom f.goals c).filter (fun x => decide (f.at x = .fin)) = []
      · simp [hq]
        rw [if_pos (lt_lim (by omega))]
        rw [if_pos (by simpa using hq)]
        simp [nats_app]
      · have : ((allFrom f.goals c).filter fun x => decide (f.at x = .fin)).isEmpty = false := by simpa using hq
        simp [hq, this]
        rw [if_neg (by simpa using hq)]
  subst e
  simp
  rfl
theorem ring_path_eq {f : Fl} (ok : f.Ok) {X : Out} {ρ0 : Env} {c : Nat} (hc : c < f.size) {l : List D} (hρ : ρ0 = [some (.val f.enc), some (.own (.lst l)), some (.val (.int c)), some (.own (.lst [.int c]))])
    (hX : whileD [] (tAndM (tOf (eOp D.eq (eBf bLen [(eCall f_goals [(eV 0), (eOp D.idx (eB 3) (eNeg (eK (.int 1))))])]) (eK (.int 1)))) (tOf (eOp D.notIn (eOp D.idx (eCall f_goals [(eV 0), (eOp D.idx (eB 3) (eNeg (eK (.int 1))))]) (eK (.int 0))) (eB 3)))) (sApp 3 (eOp D.idx (eCall f_goals [(eV 0), (eOp D.idx (eB 3) (eNeg (eK (.int 1))))]) (eK (.int 0)))) 100000 ρ0 = X) :
    X = .nx [some (.val f.enc), some (.own (.lst l)), some (.val (.int c)), some (.own (.lst (nats (ringPath f.goals c))))] ∧ RingOk f.size (ringPath f.goals c) := by
  have hs := Fl.size_le ok
  have key : ∀ p : List Nat, RingOk f.size p → f_goals [f.enc, .int (lastN p)] = .ok (.lst (nats (f.goals (lastN p)))) ∧ D.idx (.lst (nats p)) (.int (-1)) = some (.int (lastN p)) := fun p h => ⟨goals_eq ok (h.lt _ (lastN_mem h.ne)), idx_last h.ne⟩
  have first : ∀ m : List Nat, m.length = 1 → D.idx (.lst (nats m)) (.int 0) = some (.int (m.getD 0 0 : Nat)) := fun m h => by
    match m, h with
    | [x], _ => exact idx_l0 _ _
  obtain ⟨e, i, _⟩ := wrun_of hX (fun p => [some (.val f.enc), some (.own (.lst l)), some (.val (.int c)), some (.own (.lst (nats p)))]) (ringCond f.goals) (ringStep f.goals) (fun p => 31 - p.length) (RingOk f.size) [c] hρ
    ⟨by simp, fun x hx => by rw [List.mem_singleton.mp hx]; exact hc, by simp⟩ (by simp) (fun p hp => by
      obtain ⟨k1, k2⟩ := key p hp
      simp [-List.getD_eq_getElem?_getD, k1, k2]
      have e1 : ((f.goals (lastN p)).length : Int) = 1 ↔ (f.goals (lastN p)).length = 1 := by omega
      unfold ringCond
      by_cases h1 : (f.goals (lastN p)).length = 1
      · simp [-List.getD_eq_getElem?_getD, h1, first _ h1]
      · simp [-List.getD_eq_getElem?_getD, h1, e1]) (fun p hp hb => by
      obtain ⟨k1, k2⟩ := key p hp
      have h1 := of_decide_eq_true (Bool.and_eq_true_iff.mp hb).1
      have hn := ring_step (G := f.goals) (fun _ _ => goals_lt ok) hp hb
      have hl := nodup_len hn.nd hn.lt
      have hl2 : (ringStep f.goals p).length = p.length + 1 := by unfold ringStep; simp
      refine ⟨?_, hn, by omega⟩
      simp [-List.getD_eq_getElem?_getD, k1, k2, first _ h1]
      rw [if_pos (lt_lim (by omega))]
      simp [-List.getD_eq_getElem?_getD, ringStep, nats_app])
  exact ⟨e, i⟩
theorem rings_eq {f : Fl} (ok : f.Ok) : f_rings [f.enc] = .ok (.lst (natss f.rings)) := by
  have hs := Fl.size_le ok
  have hz : f.cells.length = f.size := rfl
  simp only [f_rings, runM, b_rings, startE]
  simp [look_eq ok, hz, rg1_nat (show f.size ≤ 1000000 by omega)]
  generalize hX : forD _ _ _ _ _ = X
  obtain ⟨e, _⟩ := run_of hX (fun i : Nat => D.int i) (fun l : List (List Nat) => [some (.val f.enc), some (.own (.lst (natss l))), none, none]) (ringAdd f.goals) (fun i l => l.length ≤ i) (List.range f.size) [] rfl rfl (Nat.zero_le _) fun i l c hc hl => by
    obtain ⟨hi, rfl⟩ := range_get' hc
    refine ⟨?_, by
      unfold ringAdd
      split
      · simp; omega
      · omega⟩
    rw [turn_one]
    simp
    generalize hY : whileD _ _ _ _ _ = Y
    obtain ⟨rfl, rk⟩ := ring_path_eq ok hi rfl hY
    have hg := goals_eq ok (rk.lt _ (lastN_mem rk.ne))
    have hq := nats_eq (f.goals (lastN (ringPath f.goals c))) [c]
    simp at hq
    unfold ringAdd
    simp [idx_last rk.ne, hg, hq]
    by_cases h1 : f.goals (lastN (ringPath f.goals c)) = [c]
    · have hm := min_nats rk.ne
      by_cases h2 : c = minN (ringPath f.goals c)
      · simp [h1, hm, ← h2]
        rw [if_pos (lt_lim (by omega))]
        simp [natss_app]
        rfl
      · simp [h1, hm, h2, show ¬ (c : Int) = (minN (ringPath f.goals c) : Nat) from by omega]
    · simp [h1]
  subst e
  simp
  rfl
end L2.Pv.Lw

set_option maxRecDepth 100000
set_option maxHeartbeats 1000000
set_option linter.all false
set_option Elab.async false
set_option autoImplicit false
namespace L2.Pv.Lw
open PySem PySem.Spec PyProof.Rows L2.Pv
def netD (f : Fl) : D := .tup [.lst ((List.range f.size).map fun c => .lst (nats (f.goals c))), .lst ((List.range f.size).map fun c => .lst (nats (f.comers c)))]
def keysD (l : List Nat) : List (D × D) := l.map fun x : Nat => (D.int x, D.bl true)
theorem put_keys (l : List Nat) (x : Nat) : D.put (keysD l) (.int x) (.bl true) = keysD (addK l x) := by
  have hs : ∀ y : Nat, D.same (.int y) (.int x) = decide (y = x) := fun y => by
    show decide ((y : Int) = x) = _
    by_cases h : y = x
    · simp [h]
    · simp [h, show ¬ (y : Int) = x by omega]
  have ha : (keysD l).any (fun p => p.1.same (.int x)) = decide (x ∈ l) := by
    unfold keysD
    rw [List.any_map]
    rw [Bool.eq_iff_iff, List.any_eq_true, decide_eq_true_eq]
    constructor
    · rintro ⟨y, hy, e⟩
      have e : D.same (.int y) (.int x) = true := e
      rw [hs] at e
      have := of_decide_eq_true e
      subst this; exact hy
    · intro h
      exact ⟨x, h, (hs x).trans (decide_eq_true rfl)⟩
  unfold D.put addK
  rw [ha]
  by_cases h : x ∈ l
  · rw [if_pos (decide_eq_true h), if_pos h]
    unfold keysD
    rw [List.map_map]
    refine List.map_congr_left fun y _ => ?_
    show (if (D.int (y : Int)).same (.int x) = true then _ else _) = _
    split <;> rfl
  · rw [if_neg (by simpa using h), if_neg h]
    unfold keysD
    rw [List.map_append]; rfl
theorem keys_fst (l : List Nat) : (keysD l).map (·.1) = nats l := by
  unfold keysD nats
  rw [List.map_map]; rfl
def lawE (ns : List Int) (f : Fl) (far : List D) (a5 a6 a7 a8 a9 a10 a11 a12 a13 a14 : Option Sl) : Env :=
  [some (.val (.scr ns)), some (.val f.enc), some (.val (netD f)), some (.val (.lst (nats (List.range f.size)))), some (.own (.lst far)), a5, a6, a7, a8, a9, a10, a11, a12, a13, a14]
theorem net_goals {f : Fl} {c : Nat} (h : c < f.size) : ∃ x, D.idx (netD f) (.int 0) = some x ∧ D.idx x (.int c) = some (.lst (nats (f.goals c))) :=
  ⟨_, idx_t0 _ _, idx_l (get_range h _)⟩
structure KeyOk (n : Nat) (l : List Nat) : Prop where
  nd : l.Nodup
  lt : ∀ x ∈ l, x < n
theorem addK_ok {n : Nat} {l : List Nat} {x : Nat} (h : KeyOk n l) (hx : x < n) : KeyOk n (addK l x) :=
  ⟨addK_nd h.nd, fun y hy => (addK_mem.mp hy).elim (h.lt y) fun e => by rw [e]; exact hx⟩
theorem far_in {f : Fl} (ok : f.Ok) (ns : List Int) (far : List D) (a5 a10 : Option Sl) {o : Nat} (ho : o < f.size) {l : List Nat} (hl : KeyOk f.size l) {X : Out}
    (hX : forD [13] (gOne 13) (sSub 9 (eV 13) (eK (.bl true))) (nats (f.goals o)) (lawE ns f far a5 none none none (some (.own (.dct false (keysD l)))) a10 none (some (.val (.int o))) none none) = X) :
    X = .nx (lawE ns f far a5 none none none (some (.own (.dct false (keysD ((f.goals o).foldl addK l))))) a10 none (some (.val (.int o))) none none) ∧ KeyOk f.size ((f.goals o).foldl addK l) := by
  have hs := Fl.size_le ok
  exact run_of hX (fun x : Nat => D.int x) (fun l => lawE ns f far a5 none none none (some (.own (.dct false (keysD l)))) a10 none (some (.val (.int o))) none none) addK (fun _ l => KeyOk f.size l) (f.goals o) l rfl rfl hl fun i l x hx hl => by
    have hx : x < f.size := goals_lt ok (List.mem_of_getElem? hx)
    refine ⟨?_, addK_ok hl hx⟩
    have hlen := nodup_len hl.nd hl.lt
    rw [turn_one]
    have e : D.setAt (.dct false (keysD l)) (.int x) (.bl true) = some (.dct false (keysD (addK l x))) := by
      show (if _ then _ else _) = _
      rw [if_pos, put_keys]
      have : (keysD l).length < lim := by unfold keysD; rw [List.length_map]; exact lt_lim (by omega)
      simp [D.keyOk, this]
    simp [lawE, e]
theorem far_mid {f : Fl} (ok : f.Ok) (ns : List Int) (far : List D) (a5 a10 : Option Sl) {l : List Nat} (hl : KeyOk f.size l) {X : Out}
    (hX : forD [12, 13] (gOne 12) (sFor [13] (gOne 13) (iV (eOp D.idx (eOp D.idx (eV 2) (eK (.int 0))) (eV 12))) (sSub 9 (eV 13) (eK (.bl true)))) (nats l) (lawE ns f far a5 none none none (some (.own (.dct false (keysD l)))) a10 none none none none) = X) :
    X = .nx (lawE ns f far a5 none none none (some (.own (.dct false (keysD (roundG f.goals l))))) a10 none none none none) ∧ KeyOk f.size (roundG f.goals l) := by
  exact run_of hX (fun x : Nat => D.int x) (fun l => lawE ns f far a5 none none none (some (.own (.dct false (keysD l)))) a10 none none none none) (fun acc o => (f.goals o).foldl addK acc) (fun _ l => KeyOk f.size l) l l rfl rfl hl fun i acc o ho ha => by
    have ho : o < f.size := hl.lt _ (List.mem_of_getElem? ho)
    obtain ⟨x, e1, e2⟩ := net_goals ho
    rw [turn_one]
    simp [lawE, e1, e2]
    generalize hY : forD _ _ _ _ _ = Y
    obtain ⟨rfl, k⟩ := far_in ok ns far a5 a10 ho ha hY
    refine ⟨?_, k⟩
    simp [lawE]
theorem rounds_fold {G : Nat → List Nat} : ∀ (xs : List Nat) (l : List Nat), xs.foldl (fun l _ => roundG G l) l = roundsN G xs.length l
  | [], _ => rfl
  | _ :: xs, l => rounds_fold xs (roundG G l)
def farN (f : Fl) (c : Nat) : List Nat := sortN (roundsN f.goals f.size [c])
theorem far_eq {f : Fl} (ok : f.Ok) {c : Nat} (hc : c < f.size) : farN f c = allFrom f.goals c := by
  obtain ⟨l, t, e, _⟩ := (all_from_eq (G := f.goals) (fun _ _ => goals_lt ok) (goals_nd ok) (Fl.size_le ok) hc).2
  rw [e]
  refine ToList.sort (rounds_ok (G := f.goals) (n := f.size) (c := c) (fun _ _ => goals_lt ok) f.size [c] (by simp) (by simp) (fun x hx => ?_) (.inr (by simp))) t
  rw [List.mem_singleton.mp hx]
  exact ⟨.here _, hc⟩
theorem far_out {f : Fl} (ok : f.Ok) (ns : List Int) (far : List D) {c : Nat} (hc : c < f.size) {X : Out}
    (hX : forD [10, 12, 13] (gOne 10) (sFor [12, 13] (gOne 12) (iV (eBf bListD [(eB 9)])) (sFor [13] (gOne 13) (iV (eOp D.idx (eOp D.idx (eV 2) (eK (.int 0))) (eV 12))) (sSub 9 (eV 13) (eK (.bl true))))) (nats (List.range f.size)) (lawE ns f far (some (.val (.int c))) none none none (some (.own (.dct false (keysD [c])))) none none none none none) = X) :
    X = .nx (lawE ns f far (some (.val (.int c))) none none none (some (.own (.dct false (keysD (roundsN f.goals f.size [c]))))) none none none none none) ∧ KeyOk f.size (roundsN f.goals f.size [c]) := by
  obtain ⟨e, k⟩ := run_of hX (fun x : Nat => D.int x) (fun l => lawE ns f far (some (.val (.int c))) none none none (some (.own (.dct false (keysD l)))) none none none none none) (fun l _ => roundG f.goals l) (fun _ l => KeyOk f.size l) (List.range f.size) [c] rfl rfl
    ⟨by simp, fun x hx => by rw [List.mem_singleton.mp hx]; exact hc⟩ fun i l x hx hl => by
    rw [turn_one]
    simp [lawE, bListD, keys_fst]
    generalize hY : forD _ _ _ _ _ = Y
    obtain ⟨rfl, k⟩ := far_mid ok ns far _ _ hl hY
    refine ⟨?_, k⟩
    simp [lawE]
  rw [rounds_fold, List.length_range] at e k
  exact ⟨e, k⟩
theorem far_all {f : Fl} (ok : f.Ok) (ns : List Int) {X : Out}
    (hX : forD [5, 9, 10, 12, 13] (gOne 5) (sSeq (sSetF 9 (eDisp [((eV 5), (eK (.bl true)))])) (sSeq (sFor [10, 12, 13] (gOne 10) (iV (eV 3)) (sFor [12, 13] (gOne 12) (iV (eBf bListD [(eB 9)])) (sFor [13] (gOne 13) (iV (eOp D.idx (eOp D.idx (eV 2) (eK (.int 0))) (eV 12))) (sSub 9 (eV 13) (eK (.bl true)))))) (sApp 4 (eBf bSorted [(eB 9)])))) (nats (List.range f.size)) (lawE ns f [] none none none none none none none none none none) = X) :
    X = .nx (lawE ns f ((List.range f.size).map fun c => .lst (nats (allFrom f.goals c))) none none none none none none none none none none) := by
  have hs := Fl.size_le ok
  obtain ⟨e, _⟩ := run_of hX (fun x : Nat => D.int x) (fun cs : List Nat => lawE ns f (cs.map fun c => .lst (nats (allFrom f.goals c))) none none none none none none none none none none) (fun cs c => cs ++ [c]) (fun i cs => cs.length = i) (List.range f.size) [] rfl rfl rfl fun i cs c hc hl => by
    obtain ⟨hi, rfl⟩ := range_get' hc
    refine ⟨?_, by simp [hl]⟩
    rw [turn_one]
    simp [lawE, mergeD, D.put]
    generalize hY : forD _ _ _ _ _ = Y
    obtain ⟨rfl, k⟩ := far_out ok ns _ hi hY
    have hlen := nodup_len k.nd k.lt
    have hb : bSorted [.dct false (keysD (roundsN f.goals f.size [c]))] = some (.lst (nats (farN f c))) := by
      show (D.ints ((keysD _).map (·.1))).bind _ = _
      rw [keys_fst]
      exact sorted_nats (by omega)
    simp [lawE, hb, far_eq ok hi]
    rw [if_pos (lt_lim (by omega))]
    simp
  have : ∀ (xs ys : List Nat), xs.foldl (fun cs c => cs ++ [c]) ys = ys ++ xs := by
    intro xs
    induction xs with
    | nil => intro ys; simp
    | cons x xs ih => intro ys; rw [List.foldl_cons, ih]; simp
  rw [this] at e
  exact e
end L2.Pv.Lw

set_option maxRecDepth 100000
set_option maxHeartbeats 1000000
set_option linter.all false
set_option Elab.async false
set_option autoImplicit false
namespace L2.Pv.Lw
open PySem PySem.Spec PyProof.Rows L2.Pv
def farL (f : Fl) : List D := (List.range f.size).map fun c => .lst (nats (allFrom f.goals c))
theorem far_idx {f : Fl} {c : Nat} (h : c < f.size) : D.idx (.lst (farL f)) (.int c) = some (.lst (nats (allFrom f.goals c))) := idx_l (get_range h _)
theorem sources_far {f : Fl} (ok : f.Ok) {c : Nat} (h : c < f.size) : allFrom f.comers c = (List.range f.size).filter fun x => decide (c ∈ allFrom f.goals x) := by
  have hs := Fl.size_le ok
  obtain ⟨l, t, e, _⟩ := (all_from_eq (G := f.comers) (fun _ _ => comers_lt ok) (comers_nd f) hs h).2
  rw [e]
  refine sortN_one ((List.perm_ext_iff_of_nodup t.nd (List.nodup_range.filter _)).mpr fun x => ?_) (List.Pairwise.filter _ (List.pairwise_lt_range.imp fun h => Nat.le_of_lt h))
  rw [t.mem, List.mem_filter, List.mem_range, decide_eq_true_eq]
  constructor
  · intro q
    have hx := To.lt (G := f.comers) (fun _ _ => comers_lt ok) h q
    refine ⟨hx, ?_⟩
    obtain ⟨m, tm, em, _⟩ := (all_from_eq (G := f.goals) (fun _ _ => goals_lt ok) (goals_nd ok) hs hx).2
    rw [em, mem_sortN, tm.mem]
    exact (to_comers ok h hx).mp q
  · rintro ⟨hx, q⟩
    obtain ⟨m, tm, em, _⟩ := (all_from_eq (G := f.goals) (fun _ _ => goals_lt ok) (goals_nd ok) hs hx).2
    rw [em, mem_sortN, tm.mem] at q
    exact (to_comers ok h hx).mpr q
theorem checks {f : Fl} (ok : f.Ok) (ns : List Int) {X : Out}
    (hX : forD [5] (gOne 5) (sSeq (sIf (tOf (eOp D.ne (eCall f_reach [(eV 1), (eV 5)]) (eOp D.idx (eB 4) (eV 5)))) (sRet (eK (.bl false))) (fun ρ => Out.nx ρ)) (sIf (tOf (eOp D.ne (eCall f_sources [(eV 1), (eV 5)]) (eLc [12] (gOne 12) (iV (eV 3)) (tOf (eOp D.isIn (eV 5) (eOp D.idx (eB 4) (eV 12)))) (eV 12)))) (sRet (eK (.bl false))) (fun ρ => Out.nx ρ))) (nats (List.range f.size)) (lawE ns f (farL f) none none none none none none none none none none) = X) :
    X = .nx (lawE ns f (farL f) none none none none none none none none none none) := by
  have hs := Fl.size_le ok
  obtain ⟨ρ', e, h⟩ := inv_of hX (fun _ ρ => ρ = lawE ns f (farL f) none none none none none none none none none none) rfl fun i d ρ hd hp => by
    obtain ⟨hi, rfl⟩ := nats_range_get hd
    subst hp
    refine ⟨_, ?_, rfl⟩
    rw [turn_one]
    have e1 := far_idx hi
    have e3 := compD_fm (gm := gOne 12) (p := tOf (eOp D.isIn (eV 5) (eOp D.idx (eB 4) (eV 12)))) (me := eV 12) (ρ := lawE ns f (farL f) (some (.val (.int i))) none none none none none none none none none)
      (fun x : Nat => D.int x) (fun x => decide (i ∈ allFrom f.goals x)) (fun x : Nat => D.int x) (List.range f.size) fun x hx => ⟨_, rfl, by
        have := far_idx (List.mem_range.mp hx)
        simp [lawE, this], fun _ => by simp [lawE]⟩
    have e4 : (List.range f.size).map (fun x : Nat => D.int x) = nats (List.range f.size) := rfl
    rw [e4] at e3
    have e5 : ((List.range f.size).filter fun x => decide (i ∈ allFrom f.goals x)).map (fun x : Nat => D.int x) = nats (allFrom f.comers i) := by rw [sources_far ok hi]; rfl
    rw [e5] at e3
    simp only [lawE] at e3
    simp [lawE, reach_eq ok hi, sources_eq ok hi, e1, nats_ne, e3, show f.size ≤ lim from le_lim (by omega)]
  rw [e, h]
theorem foldl_congr' {α σ : Type} {g h : σ → α → σ} : ∀ (xs : List α) (s : σ), (∀ s x, x ∈ xs → g s x = h s x) → xs.foldl g s = xs.foldl h s
  | [], _, _ => rfl
  | x :: xs, s, q => by
    rw [List.foldl_cons, List.foldl_cons, q s x List.mem_cons_self]
    exact foldl_congr' xs _ fun s y hy => q s y (List.mem_cons_of_mem _ hy)
def endsN (f : Fl) : List Nat := (List.range f.size).filter fun c => decide (f.at c = .fin)
theorem wants {f : Fl} (ok : f.Ok) (ns : List Int) {X : Out}
    (hX : forD [5] (gOne 5) (sIf (tAndM (tOf (eOp D.ne (eOp D.idx (eOp D.idx (eV 1) (eK (.int 2))) (eV 5)) (eTup [(eK (.str "wall"))]))) (tOf (eOp D.eq (eLc [12] (gOne 12) (iV (eV 6)) (tOf (eOp D.isIn (eV 12) (eOp D.idx (eB 4) (eV 5)))) (eV 12)) (eLst [])))) (sApp 7 (eV 5)) (fun ρ => Out.nx ρ)) (nats (List.range f.size)) (lawE ns f (farL f) none (some (.val (.lst (nats (endsN f))))) (some (.own (.lst []))) none none none none none none none) = X) :
    X = .nx (lawE ns f (farL f) none (some (.val (.lst (nats (endsN f))))) (some (.own (.lst (nats f.lost)))) none none none none none none none) := by
  have hs := Fl.size_le ok
  obtain ⟨e, _⟩ := run_of hX (fun x : Nat => D.int x) (fun l : List Nat => lawE ns f (farL f) none (some (.val (.lst (nats (endsN f))))) (some (.own (.lst (nats l)))) none none none none none none none)
    (fun l c => if f.at c ≠ .wall ∧ (endsN f).filter (fun x => decide (x ∈ allFrom f.goals c)) = [] then l ++ [c] else l) (fun i l => l.length ≤ i) (List.range f.size) [] rfl rfl (Nat.zero_le _) fun i l c hc hl => by
    obtain ⟨hi, rfl⟩ := range_get' hc
    refine ⟨?_, by
      split
      · simp; omega
      · omega⟩
    rw [turn_one]
    have e1 := far_idx hi
    have ew : D.ne (f.at c).enc (.tup [.str "wall"]) = some (.bl (!decide (f.at c = .wall))) := Cell.d_ne (Fl.at_ok ok c) (b := .wall) trivial
    have hel : (endsN f).length ≤ 30 := Nat.le_trans (List.length_filter_le _ _) (by rw [List.length_range]; exact hs)
    have e3 := compD_fm (gm := gOne 12) (p := tOf (eOp D.isIn (eV 12) (eOp D.idx (eB 4) (eV 5)))) (me := eV 12) (ρ := lawE ns f (farL f) (some (.val (.int c))) (some (.val (.lst (nats (endsN f))))) (some (.own (.lst (nats l)))) none none none none none none none)
      (fun x : Nat => D.int x) (fun x => decide (x ∈ allFrom f.goals c)) (fun x : Nat => D.int x) (endsN f) fun x hx => ⟨_, rfl, by
        simp [lawE, e1], fun _ => by simp [lawE]⟩
    have e4 : (endsN f).map (fun x : Nat => D.int x) = nats (endsN f) := rfl
    have e5 : ∀ m : List Nat, m.map (fun x : Nat => D.int x) = nats m := fun _ => rfl
    have e6 := nats_eq ((endsN f).filter fun x => decide (x ∈ allFrom f.goals c)) []
    rw [e4, e5] at e3
    simp only [lawE] at e3
    by_cases hw : f.at c = .wall
    · rw [hw] at ew
      simp [lawE, Fl.cell hi, hw, ew]
    · simp [lawE, Fl.cell hi, hw, ew, e3, show (endsN f).length ≤ lim from le_lim (by omega)]
      rw [nats_nil] at e6
      rw [e6]
      by_cases hq : (endsN f).filter (fun x => decide (x ∈ allFrom f.goals c)) = []
      · simp [hq]
        rw [if_pos (lt_lim (by omega)), if_pos (by simpa using hq)]
        simp [nats_app]
      · simp [hq]
        rw [if_neg (by simpa using hq)]
  have ec : (List.range f.size).foldl (fun l c => if f.at c ≠ .wall ∧ (endsN f).filter (fun x => decide (x ∈ allFrom f.goals c)) = [] then l ++ [c] else l) [] = f.lost := by
    refine foldl_congr' _ _ fun l c hc => ?_
    have hc := List.mem_range.mp hc
    unfold Fl.lostStep
    have : ((endsN f).filter (fun x => decide (x ∈ allFrom f.goals c)) = []) ↔ ((allFrom f.goals c).filter (fun x => decide (f.at x = .fin)) = []) := by
      rw [List.filter_eq_nil_iff, List.filter_eq_nil_iff]
      constructor
      · intro h x hx hq
        exact h x (List.mem_filter.mpr ⟨List.mem_range.mpr (allFrom_lt ok hc hx), hq⟩) (decide_eq_true hx)
      · intro h x hx hq
        exact h x (of_decide_eq_true hq) (List.mem_filter.mp hx).2
    simp only [this]
  rw [ec] at e
  exact e
theorem law_ring_path {f : Fl} (ok : f.Ok) (ns : List Int) {X : Out} {c : Nat} (hc : c < f.size) {w : List D} {a6 : Option Sl}
    (hX : whileD [] (tAndM (tOf (eOp D.eq (eBf bLen [(eOp D.idx (eOp D.idx (eV 2) (eK (.int 0))) (eOp D.idx (eB 11) (eNeg (eK (.int 1)))))]) (eK (.int 1)))) (tOf (eOp D.notIn (eOp D.idx (eOp D.idx (eOp D.idx (eV 2) (eK (.int 0))) (eOp D.idx (eB 11) (eNeg (eK (.int 1))))) (eK (.int 0))) (eB 11)))) (sApp 11 (eOp D.idx (eOp D.idx (eOp D.idx (eV 2) (eK (.int 0))) (eOp D.idx (eB 11) (eNeg (eK (.int 1))))) (eK (.int 0)))) 100000
      (lawE ns f (farL f) (some (.val (.int c))) a6 (some (.own (.lst w))) none none none (some (.own (.lst [.int c]))) none none none) = X) :
    X = .nx (lawE ns f (farL f) (some (.val (.int c))) a6 (some (.own (.lst w))) none none none (some (.own (.lst (nats (ringPath f.goals c))))) none none none) ∧ RingOk f.size (ringPath f.goals c) := by
  have hs := Fl.size_le ok
  have first : ∀ m : List Nat, m.length = 1 → D.idx (.lst (nats m)) (.int 0) = some (.int (m.getD 0 0 : Nat)) := fun m h => by
    match m, h with
    | [x], _ => exact idx_l0 _ _
  obtain ⟨e, i, _⟩ := wrun_of hX (fun p => lawE ns f (farL f) (some (.val (.int c))) a6 (some (.own (.lst w))) none none none (some (.own (.lst (nats p)))) none none none) (ringCond f.goals) (ringStep f.goals) (fun p => 31 - p.length) (RingOk f.size) [c] rfl
    ⟨by simp, fun x hx => by rw [List.mem_singleton.mp hx]; exact hc, by simp⟩ (by simp) (fun p hp => by
      have k2 := idx_last hp.ne
      obtain ⟨x, n1, n2⟩ := net_goals (hp.lt _ (lastN_mem hp.ne))
      simp [-List.getD_eq_getElem?_getD, lawE, k2, n1, n2]
      have e1 : ((f.goals (lastN p)).length : Int) = 1 ↔ (f.goals (lastN p)).length = 1 := by omega
      unfold ringCond
      by_cases h1 : (f.goals (lastN p)).length = 1
      · simp [-List.getD_eq_getElem?_getD, h1, first _ h1]
      · simp [-List.getD_eq_getElem?_getD, h1, e1]) (fun p hp hb => by
      have k2 := idx_last hp.ne
      obtain ⟨x, n1, n2⟩ := net_goals (hp.lt _ (lastN_mem hp.ne))
      have h1 := of_decide_eq_true (Bool.and_eq_true_iff.mp hb).1
      have hn := ring_step (G := f.goals) (fun _ _ => goals_lt ok) hp hb
      have hl := nodup_len hn.nd hn.lt
      have hl2 : (ringStep f.goals p).length = p.length + 1 := by unfold ringStep; simp
      refine ⟨?_, hn, by omega⟩
      simp [-List.getD_eq_getElem?_getD, lawE, k2, n1, n2, first _ h1]
      rw [if_pos (lt_lim (by omega))]
      simp [-List.getD_eq_getElem?_getD, ringStep, nats_app])
  exact ⟨e, i⟩
theorem want_rings {f : Fl} (ok : f.Ok) (ns : List Int) {a6 : Option Sl} {X : Out}
    (hX : forD [5, 11] (gOne 5) (sSeq (sSetF 11 (eLst [(eV 5)])) (sSeq (sWhile 100000 [] (tAndM (tOf (eOp D.eq (eBf bLen [(eOp D.idx (eOp D.idx (eV 2) (eK (.int 0))) (eOp D.idx (eB 11) (eNeg (eK (.int 1)))))]) (eK (.int 1)))) (tOf (eOp D.notIn (eOp D.idx (eOp D.idx (eOp D.idx (eV 2) (eK (.int 0))) (eOp D.idx (eB 11) (eNeg (eK (.int 1))))) (eK (.int 0))) (eB 11)))) (sApp 11 (eOp D.idx (eOp D.idx (eOp D.idx (eV 2) (eK (.int 0))) (eOp D.idx (eB 11) (eNeg (eK (.int 1))))) (eK (.int 0))))) (sIf (tAndM (tOf (eOp D.eq (eOp D.idx (eOp D.idx (eV 2) (eK (.int 0))) (eOp D.idx (eB 11) (eNeg (eK (.int 1))))) (eLst [(eV 5)]))) (tOf (eOp D.eq (eBf bMin [(eB 11)]) (eV 5)))) (sFz 11 (sApp 7 (eV 11))) (fun ρ => Out.nx ρ)))) (nats (List.range f.size)) (lawE ns f (farL f) none a6 (some (.own (.lst []))) none none none none none none none) = X) :
    X = .nx (lawE ns f (farL f) none a6 (some (.own (.lst (natss f.rings)))) none none none none none none none) := by
  have hs := Fl.size_le ok
  obtain ⟨e, _⟩ := run_of hX (fun x : Nat => D.int x) (fun l : List (List Nat) => lawE ns f (farL f) none a6 (some (.own (.lst (natss l)))) none none none none none none none) (ringAdd f.goals) (fun i l => l.length ≤ i) (List.range f.size) [] rfl rfl (Nat.zero_le _) fun i l c hc hl => by
    obtain ⟨hi, rfl⟩ := range_get' hc
    refine ⟨?_, by
      unfold ringAdd
      split
      · simp; omega
      · omega⟩
    rw [turn_one]
    simp [lawE]
    generalize hY : whileD _ _ _ _ _ = Y
    obtain ⟨rfl, rk⟩ := law_ring_path ok ns hi hY
    obtain ⟨x, n1, n2⟩ := net_goals (rk.lt _ (lastN_mem rk.ne))
    have hq := nats_eq (f.goals (lastN (ringPath f.goals c))) [c]
    simp at hq
    unfold ringAdd
    simp [lawE, idx_last rk.ne, n1, n2, hq]
    by_cases h1 : f.goals (lastN (ringPath f.goals c)) = [c]
    · have hm := min_nats rk.ne
      by_cases h2 : c = minN (ringPath f.goals c)
      · simp [h1, hm, ← h2]
        rw [if_pos (lt_lim (by omega))]
        simp [natss_app]
        rfl
      · simp [h1, hm, h2, show ¬ ((minN (ringPath f.goals c) : Nat) : Int) = c from by omega]
    · simp [h1]
  exact e
end L2.Pv.Lw

set_option maxRecDepth 100000
set_option maxHeartbeats 1000000
set_option linter.all false
set_option Elab.async false
set_option autoImplicit false
namespace L2.Pv.Lw
open PySem PySem.Spec PyProof.Rows L2.Pv
def badD (f : Fl) : List D := [.int (-1), .int f.size, .non, .bl true, .str "0"]
theorem bad_within {f : Fl} (ok : f.Ok) {d : D} (h : d ∈ badD f) : f_is_within [d, .int 0, .int (f.size - 1)] = .ok (.bl false) := by
  simp only [f_is_within, runM, b_is_within, startE]
  simp only [badD, List.mem_cons, List.not_mem_nil, or_false] at h
  rcases h with h | h | h | h | h <;> subst h <;> simp [D.tyN, isTy] <;> omega
theorem bad_look {f : Fl} (ok : f.Ok) {d : D} (h : d ∈ badD f) : f_look_cell [f.enc, d] = .ex "BadCell" := by
  have hz : f.cells.length = f.size := rfl
  have hw := bad_within ok h
  simp only [f_look_cell, runM, b_look_cell, startE]
  simp [look_eq ok, hw, hz]
theorem bad_word {f : Fl} (ok : f.Ok) {d : D} (h : d ∈ badD f) {k : Int} (hk : k = 0 ∨ k = 1) : f__law_word [.int k, f.enc, d, .non] = .ok (.str "cell") := by
  have e0 : f_reach [f.enc, d] = .ex "BadCell" := by
    simp only [f_reach, runM, b_reach, startE]
    simp [bad_look ok h]
  have e1 : f_sources [f.enc, d] = .ex "BadCell" := by
    simp only [f_sources, runM, b_sources, startE]
    simp [bad_look ok h]
  have ea : f__law_asked [.int k, f.enc, d, .non] = .ex "BadCell" := by
    simp only [f__law_asked, runM, b__law_asked, startE]
    rcases hk with hk | hk <;> subst hk <;> simp [e0, e1]
  simp only [f__law_word, runM, b__law_word, startE]
  simp [sTry, ea, excs, handM, subX, Out.noRs]
theorem bad_idx (f : Fl) (j : Int) (h : 0 ≤ j) (h5 : j < 5) : ∃ d, D.idx (.lst [.int (-1), .int f.size, .non, .bl true, .str "0"]) (.int j) = some d ∧ d ∈ badD f := by
  have : j = 0 ∨ j = 1 ∨ j = 2 ∨ j = 3 ∨ j = 4 := by omega
  rcases this with h | h | h | h | h <;> subst h <;> exact ⟨_, rfl, by simp [badD]⟩
theorem law_true (ns : List Int) : f_law [.scr ns] = .ok (.bl true) := by
  obtain ⟨f, ok, ef⟩ := floor_ok ns 0 (by decide)
  have hs := Fl.size_le ok
  have hz : f.cells.length = f.size := rfl
  simp only [f_law, runM, b_law, startE]
  have ef' : f__law_floor [.scr ns, .int 0] = .ok f.enc := ef
  have en := law_net_eq ok
  rw [← netD] at en
  simp [ef', en, hz, show (f.size : Int) ≤ 1000000 by omega]
  generalize hX : forD _ _ _ _ _ = X
  have q := far_all ok ns hX
  subst q
  simp [lawE]
  generalize hX2 : forD _ _ _ _ _ = X2
  have q := checks ok ns hX2
  subst q
  have e3 := compD_fm (gm := gOne 5) (p := tOf (eOp D.eq (eOp D.idx (eOp D.idx (eV 1) (eK (.int 2))) (eV 5)) (eTup [(eK (.str "end"))]))) (me := eV 5) (ρ := lawE ns f (farL f) none none none none none none none none none none)
      (fun x : Nat => D.int x) (fun x => decide (f.at x = .fin)) (fun x : Nat => D.int x) (List.range f.size) fun x hx => ⟨_, rfl, by
        have ew : D.eq (f.at x).enc (.tup [.str "end"]) = some (.bl (decide (f.at x = .fin))) := Cell.d_eq (Fl.at_ok ok x) (b := .fin) trivial
        simp [lawE, Fl.cell (List.mem_range.mp hx), ew], fun _ => by simp [lawE]⟩
  have e4 : (List.range f.size).map (fun x : Nat => D.int x) = nats (List.range f.size) := rfl
  have e5 : ((List.range f.size).filter fun x => decide (f.at x = .fin)).map (fun x : Nat => D.int x) = nats (endsN f) := rfl
  rw [e4, e5] at e3
  simp only [lawE] at e3
  simp [lawE, e3, show f.size ≤ lim from le_lim (by omega)]
  generalize hX3 : forD _ _ _ _ _ = X3
  have q := wants ok ns hX3
  subst q
  simp [lawE, lost_eq ok, nats_ne]
  generalize hX4 : forD _ _ _ _ _ = X4
  have q := want_rings ok ns hX4
  subst q
  have er := d_ne_self (natss_sh2 f.rings)
  have h5 := And.intro (Int.emod_nonneg (cellI ns 4) (show (5 : Int) ≠ 0 by decide)) (Int.emod_lt_of_pos (cellI ns 4) (show (0 : Int) < 5 by decide))
  obtain ⟨d, ed, hd⟩ := bad_idx f _ h5.1 h5.2
  have ec : f__law_cell [.scr ns, .int 4] = .ok (.int (cellI ns 4)) := cell_eq ns 4
  have w0 := bad_word ok hd (k := 0) (.inl rfl)
  have w1 := bad_word ok hd (k := 1) (.inr rfl)
  simp [lawE, rings_eq ok, er, ec, d_mod, hz, ed]
  rw [if_pos (le_lim (by decide)), show [D.int 0, D.int 1] = [(0 : Int), 1].map D.int from rfl, compD_map D.int (fun _ => D.str "cell") [(0 : Int), 1] fun k hk => ⟨_, rfl, by
    have : k = 0 ∨ k = 1 := by simpa using hk
    rcases this with h | h <;> subst h <;> simp [w0, w1]⟩]
  have es := d_eq_self (k := 1) (d := .lst [.str "cell", .str "cell"]) (by simp [D.sh])
  simp [es]
end L2.Pv.Lw

theorem PySem.Challenge.cw_beltturns_k06_ways_holds : PySem.Challenge.rw_beltturns_k06_ways.Holds :=
  L2.Pv.Lw.law_holds fun ns h => L2.Pv.Lw.law_true ns
